import PyProof.Rows.All
import Wide.All
import OpenK.AllK
import Wide.FinOn
import HandS.Words
import HandS.ExcField
import HandS.Head0
import HandS.Head1
import HandS.Head2
import HandS.HeadEnd
import HandS.HeadHook1
import HandS.HeadHook2
import HandS.HeadHook3
import HandS.ForMost
import HandS.Deep
import HandS.IsInst
import HandS.TupAny
import HandS.Zip
import HandS.Flow
import HandS.Conv
import HandS.More
import HandS.Sort
import HandS.SortInts
import KE.LtSeq
import KE.KRevSl
import KE.KDictKeyed
import HandS.New0
import HandS.NoneIn
import HandS.SuiteRaise
import HandS.ExcInit
import HandS.CallSlots
import HandS.ExcCtx
import HandS.Text
import HandS.FStr
import HandS.SetFor
import HandS.SetKeys
import KE.KDictCopyH
import KE.KDictSum
import HandS.SortOrd
import HandS.SortRule
import HandS.ExcValue
import HandS.TupMul
import HandS.TupLe
import HandS.WideBits
import HandS.Exc
import HandS.ExcOwn
import KE.KDictDisplayH
import HandS.Strs
import KE.KExcIs
import KE.GoesEnum
import HandS.TryMany
import HandS.Defaults
import PySem.Challenge.RW_fakehunt_k29_twins_in_groups
set_option Elab.async false
set_option linter.all false
set_option maxRecDepth 100000
namespace PV
open PySem PySem.Spec PyProof.Rows L2 He

/-! ### what is told of the top: its definitions alone, so that the run may stand ahead of all else -/
/-- a plain class without state -/
def clsB (x : Str) (K : PySem.W.Frag) : Bool := eqO (PySem.W.nsIn K mainGlobals x) (some (some (.ref (ga K x)))) && (PySem.W.makesIn K (ga K x) && (eqO (PySem.W.findIn K (.ref (ga K x)) "__init__") (some (some (.builtin "object.__init__"))) && (PySem.W.keepIn K (.ref (ga K x)) &&
  (PySem.W.plainGet K (ga K x) Str.empty && (PySem.W.hasDictIn K (ga K x) && (PySem.W.plainOver K (ga K x) && (eqO (PySem.W.findIn K (.ref (ga K x)) "__setattr__") (some (some (.builtin "object.__setattr__"))) && (eqO (PySem.W.findIn K (.ref (ga K x)) "__class__") (some (some (.builtin "object.__class__"))) &&
  (eqO (PySem.W.specialIn K (.builtin "object.__class__") "__get__") (some (some (.builtin "getset_descriptor.__get__"))) && (decide (PySem.W.takesIn K (.builtin "object.__class__") = some true) && decide (PySem.W.mroIn K (ga K x) (.type "object") = some true)))))))))))
/-- class c has the method m of class c0 -/
def mthB (c m c0 : Str) (K : PySem.W.Frag) : Bool := eqO (PySem.W.findIn K (.ref (ga K c)) m) (some (some (.ref (ma K (ga K c0) m)))) && PySem.W.isFn K (.ref (ma K (ga K c0) m))
/-- isinstance of an instance of c and class k -/
def kitB (c k : Str) (b : Bool) (K : PySem.W.Frag) : Bool := PySem.W.isClsIn K (ga K k) && (decide (PySem.W.typeIn K (.ref (ga K k)) = some (.type "type")) && (decide (PySem.W.subIn K (.ref (ga K c)) (.ref (ga K k)) = some b) && (b || !decide (ga K c = ga K k))))
/-- a constant tuple, without a dict -/
def tupN (x : Str) (K : PySem.W.Frag) : Bool := match K.lookup (ga K x) with
  | some ⟨.type c, none, .seq _ _, _⟩ => decide (c = "tuple")
  | _ => false
def oexB (K : PySem.W.Frag) (C : Addr) : Bool := match K.lookup C with
  | some ⟨.type t, _, .cls cd, sl⟩ => decide (t = "type") && (match cd.mro, sl.toList with
    | .ref c :: bm, [_, _, _, _, some (.builtin n), _] => decide (c = C) && (decide (n = "ValueError.__new__") && (!cd.hasDel && (cd.hasDict && PySem.HandSPX.refsVE bm)))
    | _, _ => false)
  | _ => false
/-- a class of exceptions is told: made, read, asked -/
def excB (x : Str) (K : PySem.W.Frag) : Bool := eqO (PySem.W.nsIn K mainGlobals x) (some (some (.ref (ga K x)))) && (oexB K (ga K x) && (eqO (PySem.W.findIn K (.ref (ga K x)) "__setattr__") (some (some (.builtin "object.__setattr__"))) && (decide (PySem.W.subIn K (.ref (ga K x)) (.type "BaseException") = some true) && (decide (PySem.W.typeIn K (.ref (ga K x)) = some (.type "type")) && (PySem.W.keepIn K (.ref (ga K x)) &&
  (xfB K (ga K x) && ((PySem.W.clsIn K (ga K x)).isSome && (eqO (PySem.W.findIn K (.ref (ga K x)) "__class__") (some (some (.builtin "object.__class__"))) && (eqO (PySem.W.specialIn K (.builtin "object.__class__") "__get__") (some (some (.builtin "getset_descriptor.__get__"))) && (decide (PySem.W.takesIn K (.builtin "object.__class__") = some true) && decide (PySem.W.mroIn K (ga K x) (.type "object") = some true)))))))))))
/-- its __init__ is that of c0, its field f, that one's base -/
def initB (x c0 f base : Str) (K : PySem.W.Frag) : Bool := eqO (PySem.W.findIn K (.ref (ga K x)) "__init__") (some (some (.ref (ma K (ga K c0) "__init__")))) && (decide (PySem.W.typeIn K (.ref (ma K (ga K c0) "__init__")) = some (.type "function")) && (eqO (PySem.W.findIn K (.ref (ga K x)) f) (some none) &&
  (eqO (PySem.W.nsIn K mainGlobals base) (some (some (.ref (ga K base)))) && (PySem.W.readsIn K (ga K base) (.type "type") && ((match PySem.W.findCls K (.ref (ga K base)) (.type "type") "__init__" with
    | some (.val (.builtin b)) => decide (b = "ValueError.__init__")
    | _ => false) && eqO (PySem.W.specialIn K (.ref (ga K base)) "__getattribute__") (some (some (.builtin "type.__getattribute__"))))))))
/-- isinstance and except agree -/
def exqB (c : Str) (t : Option Str) (b : Bool) (K : PySem.W.Frag) : Bool := match t with
  | some k => kitB c k b K && decide (PySem.W.exmOne K (.ref (ga K c)) (.ref (ga K k)) = some b)
  | none => decide (PySem.W.kitOne K (.ref (ga K c)) (.type "ValueError") = some b) && decide (PySem.W.exmOne K (.ref (ga K c)) (.type "ValueError") = some b)
def rfX (o : Obj) : List Addr := match o.data with
  | .dict es _ => es.toList.flatMap fun e => refV e.val
  | .func fd => refV fd.code ++ refV fd.defaults
  | .cls cd => cd.ns :: cd.mro.flatMap refV
  | _ => []
def grX (g : Addr → Option Obj) (as : List Addr) : List Addr := as.flatMap fun a => match g a with
  | some o => rfX o
  | none => []
def asX (g : Addr → Option Obj) : Nat → List Addr → List Addr
  | 0, as => as
  | n + 1, as => as ++ asX g n (grX g as)
abbrev AlY : Type := AlT × Bool
def obsY (fa : List Fa) (fn : List DefD) (ts : List Tab) (ex : PySem.W.Frag → Bool) (g : Addr → Option Obj) : AlY := (obsT fa fn ts (frG g (cStatics :: asX g 4 [mainGlobals])), ex (frG g (cStatics :: asX g 4 [mainGlobals])))
def valY (fn : List DefD) (ts : List Tab) (w : World) : AlY := (valT fn ts w, true)
structure SaysY (fa : List Fa) (fn : List DefD) (ts : List Tab) (ex : PySem.W.Frag → Bool) (w : World) (K : PySem.W.Frag) : Prop where
  t : SaysT fa fn ts w K
  more : ex K = true
def hookY (fa : List Fa) (fn : List DefD) (ts : List Tab) (ex : PySem.W.Frag → Bool) : PySem.W.Hook where
  α := AlY
  obs := fun s => obsY fa fn ts ex s.heap.get?
  val := fun w => valY fn ts w
  says := fun w h => ∃ K : PySem.W.Frag, K.In h ∧ SaysY fa fn ts ex w K
  of := fun _ _ e => ⟨_, frG_in, ⟨congrArg (fun z : AlY => z.1) e, congrArg (fun z : AlY => z.2) e⟩⟩
  keeps := fun _ _ _ ⟨K, hK, c⟩ k => ⟨K, PySem.W.Frag.In.keeps hK k, c⟩
theorem obsY_eq {fa : List Fa} {fn : List DefD} {ts : List Tab} {ex : PySem.W.Frag → Bool} {g : Addr → Option Obj} {s : Shared} (h : ∀ a, g a = s.heap.get? a) : obsY fa fn ts ex g = (hookY fa fn ts ex).obs s := by
  have e : g = s.heap.get? := funext h
  rw [e] <;> rfl
end PV
namespace Lw
open PySem PySem.Spec PyProof.Rows L2 PV
def top (i : Nat) : Stmt := PySem.Challenge.pw_fakehunt_k29_twins_in_groups.main.body.getD i (.Pass ⟨0, 0, 0, 0⟩)
abbrev s_l_program : Stmt := top 40
abbrev s_l_cell_at : Stmt := top 34
abbrev s_l_number_by : Stmt := top 36
abbrev s_l_row_by : Stmt := top 39
abbrev s_l_operands_by : Stmt := top 38
abbrev s_l_operand_by : Stmt := top 37
abbrev s_made : Stmt := top 30
abbrev s_made_row : Stmt := top 29
abbrev s_made_put : Stmt := top 26
abbrev s_reckon : Stmt := top 3
abbrev s_around : Stmt := top 2
abbrev s_comes_to_nought : Stmt := top 25
abbrev s_made_if : Stmt := top 28
abbrev s_is_so : Stmt := top 4
abbrev s_less_than : Stmt := top 27
abbrev s_fakes : Stmt := top 20
abbrev s_Sign_turned : Stmt := L2.inClass (top 13) 1
abbrev s_put_at : Stmt := top 11
abbrev s_next_sign : Stmt := top 9
abbrev s_More_turned : Stmt := L2.inClass (top 14) 1
abbrev s_operand_places : Stmt := top 10
abbrev s_Turn_turned : Stmt := L2.inClass (top 15) 1
abbrev s_Out_turned : Stmt := L2.inClass (top 16) 1
abbrev s_Swap_turned : Stmt := L2.inClass (top 17) 1
abbrev s_Far_turned : Stmt := L2.inClass (top 18) 1
abbrev s_Sign_word : Stmt := L2.inClass (top 13) 0
abbrev s_More_word : Stmt := L2.inClass (top 14) 0
abbrev s_Turn_word : Stmt := L2.inClass (top 15) 0
abbrev s_Out_word : Stmt := L2.inClass (top 16) 0
abbrev s_Swap_word : Stmt := L2.inClass (top 17) 0
abbrev s_Far_word : Stmt := L2.inClass (top 18) 0
abbrev s_fake_of : Stmt := top 21
abbrev s_l_alike : Stmt := top 35
abbrev s_twins : Stmt := top 32
abbrev s_law : Stmt := top 41
abbrev fd_l_program : He.DefD := ⟨("_law_program", none), "_law_program", "_law_program", defArgs s_l_program, defBody s_l_program, defScope s_l_program, [], []⟩
abbrev fd_l_cell_at : He.DefD := ⟨("_law_cell_at", none), "_law_cell_at", "_law_cell_at", defArgs s_l_cell_at, defBody s_l_cell_at, defScope s_l_cell_at, [], []⟩
abbrev fd_l_number_by : He.DefD := ⟨("_law_number_by", none), "_law_number_by", "_law_number_by", defArgs s_l_number_by, defBody s_l_number_by, defScope s_l_number_by, [], []⟩
abbrev fd_l_row_by : He.DefD := ⟨("_law_row_by", none), "_law_row_by", "_law_row_by", defArgs s_l_row_by, defBody s_l_row_by, defScope s_l_row_by, [], []⟩
abbrev fd_l_operands_by : He.DefD := ⟨("_law_operands_by", none), "_law_operands_by", "_law_operands_by", defArgs s_l_operands_by, defBody s_l_operands_by, defScope s_l_operands_by, [], []⟩
abbrev fd_l_operand_by : He.DefD := ⟨("_law_operand_by", none), "_law_operand_by", "_law_operand_by", defArgs s_l_operand_by, defBody s_l_operand_by, defScope s_l_operand_by, [], []⟩
abbrev fd_made : He.DefD := ⟨("made", none), "made", "made", defArgs s_made, defBody s_made, defScope s_made, [], []⟩
abbrev fd_made_row : He.DefD := ⟨("made_row", none), "made_row", "made_row", defArgs s_made_row, defBody s_made_row, defScope s_made_row, [], []⟩
abbrev fd_made_put : He.DefD := ⟨("made_put", none), "made_put", "made_put", defArgs s_made_put, defBody s_made_put, defScope s_made_put, [], []⟩
abbrev fd_reckon : He.DefD := ⟨("reckon", none), "reckon", "reckon", defArgs s_reckon, defBody s_reckon, defScope s_reckon, [], []⟩
abbrev fd_around : He.DefD := ⟨("around", none), "around", "around", defArgs s_around, defBody s_around, defScope s_around, [], []⟩
abbrev fd_comes_to_nought : He.DefD := ⟨("comes_to_nought", none), "comes_to_nought", "comes_to_nought", defArgs s_comes_to_nought, defBody s_comes_to_nought, defScope s_comes_to_nought, [], []⟩
abbrev fd_made_if : He.DefD := ⟨("made_if", none), "made_if", "made_if", defArgs s_made_if, defBody s_made_if, defScope s_made_if, [], []⟩
abbrev fd_is_so : He.DefD := ⟨("is_so", none), "is_so", "is_so", defArgs s_is_so, defBody s_is_so, defScope s_is_so, [], []⟩
abbrev fd_less_than : He.DefD := ⟨("less_than", none), "less_than", "less_than", defArgs s_less_than, defBody s_less_than, defScope s_less_than, [], []⟩
abbrev fd_fakes : He.DefD := ⟨("fakes", none), "fakes", "fakes", defArgs s_fakes, defBody s_fakes, defScope s_fakes, [], []⟩
abbrev fd_Sign_turned : He.DefD := ⟨("Sign", some "turned"), "turned", "Sign.turned", defArgs s_Sign_turned, defBody s_Sign_turned, defScope s_Sign_turned, [], []⟩
abbrev fd_put_at : He.DefD := ⟨("put_at", none), "put_at", "put_at", defArgs s_put_at, defBody s_put_at, defScope s_put_at, [], []⟩
abbrev fd_next_sign : He.DefD := ⟨("next_sign", none), "next_sign", "next_sign", defArgs s_next_sign, defBody s_next_sign, defScope s_next_sign, [], []⟩
abbrev fd_More_turned : He.DefD := ⟨("More", some "turned"), "turned", "More.turned", defArgs s_More_turned, defBody s_More_turned, defScope s_More_turned, [], []⟩
abbrev fd_operand_places : He.DefD := ⟨("operand_places", none), "operand_places", "operand_places", defArgs s_operand_places, defBody s_operand_places, defScope s_operand_places, [], []⟩
abbrev fd_Turn_turned : He.DefD := ⟨("Turn", some "turned"), "turned", "Turn.turned", defArgs s_Turn_turned, defBody s_Turn_turned, defScope s_Turn_turned, [], []⟩
abbrev fd_Out_turned : He.DefD := ⟨("Out", some "turned"), "turned", "Out.turned", defArgs s_Out_turned, defBody s_Out_turned, defScope s_Out_turned, [], []⟩
abbrev fd_Swap_turned : He.DefD := ⟨("Swap", some "turned"), "turned", "Swap.turned", defArgs s_Swap_turned, defBody s_Swap_turned, defScope s_Swap_turned, [], []⟩
abbrev fd_Far_turned : He.DefD := ⟨("Far", some "turned"), "turned", "Far.turned", defArgs s_Far_turned, defBody s_Far_turned, defScope s_Far_turned, [], []⟩
abbrev fd_Sign_word : He.DefD := ⟨("Sign", some "word"), "word", "Sign.word", defArgs s_Sign_word, defBody s_Sign_word, defScope s_Sign_word, [], []⟩
abbrev fd_More_word : He.DefD := ⟨("More", some "word"), "word", "More.word", defArgs s_More_word, defBody s_More_word, defScope s_More_word, [], []⟩
abbrev fd_Turn_word : He.DefD := ⟨("Turn", some "word"), "word", "Turn.word", defArgs s_Turn_word, defBody s_Turn_word, defScope s_Turn_word, [], []⟩
abbrev fd_Out_word : He.DefD := ⟨("Out", some "word"), "word", "Out.word", defArgs s_Out_word, defBody s_Out_word, defScope s_Out_word, [], []⟩
abbrev fd_Swap_word : He.DefD := ⟨("Swap", some "word"), "word", "Swap.word", defArgs s_Swap_word, defBody s_Swap_word, defScope s_Swap_word, [], []⟩
abbrev fd_Far_word : He.DefD := ⟨("Far", some "word"), "word", "Far.word", defArgs s_Far_word, defBody s_Far_word, defScope s_Far_word, [], []⟩
abbrev fd_fake_of : He.DefD := ⟨("fake_of", none), "fake_of", "fake_of", defArgs s_fake_of, defBody s_fake_of, defScope s_fake_of, [], []⟩
abbrev fd_l_alike : He.DefD := ⟨("_law_alike", none), "_law_alike", "_law_alike", defArgs s_l_alike, defBody s_l_alike, defScope s_l_alike, [], []⟩
abbrev fd_twins : He.DefD := ⟨("twins", none), "twins", "twins", defArgs s_twins, defBody s_twins, defScope s_twins, [], []⟩
abbrev fd_law : He.DefD := ⟨("law", none), "law", "law", defArgs s_law, defBody s_law, defScope s_law, [], []⟩
def fnL : List He.DefD := [fd_l_program, fd_l_cell_at, fd_l_number_by, fd_l_row_by, fd_l_operands_by, fd_l_operand_by, fd_made, fd_made_row, fd_made_put, fd_reckon, fd_around, fd_comes_to_nought, fd_made_if, fd_is_so, fd_less_than, fd_fakes, fd_Sign_turned, fd_put_at, fd_next_sign, fd_More_turned, fd_operand_places, fd_Turn_turned, fd_Out_turned, fd_Swap_turned, fd_Far_turned, fd_Sign_word, fd_More_word, fd_Turn_word, fd_Out_word, fd_Swap_word, fd_Far_word, fd_fake_of, fd_l_alike, fd_twins, fd_law]
abbrev tb_0 : He.Tab := (fun K => He.ga K "CONTRARY", ["<", "<=", "=", ">=", ">", "!="])
def tsL : List He.Tab := [tb_0]
def faL : List He.Fa := [.glo "_law_program", .glo "_law_cell_at", .glo "_law_number_by", .glo "_law_row_by", .glo "_law_operands_by", .glo "_law_operand_by", .glo "made", .glo "made_row", .glo "made_put", .glo "reckon", .glo "around", .glo "comes_to_nought", .glo "made_if", .glo "is_so", .glo "less_than", .glo "fakes", .glo "put_at", .glo "next_sign", .glo "operand_places", .glo "fake_of", .glo "_law_alike", .glo "twins", .glo "law", .free "len", .free "sorted", .free "min", .free "int", .free "max", .free "range", .free "tuple", .free "enumerate", .free "divmod", .free "isinstance", .free "str", .free "bool", .int "REACH" (1000000000), .glo "NOUGHT", .glo "ONE", .glo "SUMS", .glo "LOOKS", .glo "CONTRARY"]
def exL : List (PySem.W.Frag → Bool) := [clsB "Sign", clsB "More", clsB "Turn", clsB "Out", clsB "Swap", clsB "Far", mthB "Sign" "turned" "Sign", mthB "More" "turned" "More", mthB "Turn" "turned" "Turn", mthB "Out" "turned" "Out", mthB "Swap" "turned" "Swap", mthB "Far" "turned" "Far", mthB "Sign" "word" "Sign", mthB "More" "word" "More", mthB "Turn" "word" "Turn", mthB "Out" "word" "Out", mthB "Swap" "word" "Swap", mthB "Far" "word" "Far", fun K => He.tupB K "NOUGHT" [.str "number", .int 0], fun K => He.tupB K "ONE" [.str "number", .int 1], fun K => He.tupB K "SUMS" [.str "+", .str "-", .str "*", .str "/", .str "mod"], tupN "SUMS", fun K => He.tupB K "LOOKS" [.str "<", .str "<=", .str "=", .str ">=", .str ">", .str "!="], tupN "LOOKS", fun K => He.valsB K (He.ga K "CONTRARY") [("<", .str ">="), ("<=", .str ">"), ("=", .str "!="), (">=", .str "<"), (">", .str "<="), ("!=", .str "=")]]
def exF (K : PySem.W.Frag) : Bool := exL.all fun f => f K
abbrev lo0 : List PySem.Str := ["REACH", "around", "reckon", "is_so", "SUMS", "LOOKS", "CONTRARY", "next_sign", "operand_places", "put_at", "Step", "Sign", "More", "Turn", "Out", "Swap", "Far", "fakes", "fake_of", "NOUGHT", "ONE", "comes_to_nought", "made_put", "less_than", "made_if", "made_row", "made", "twins", "_law_cell_at", "_law_alike"]
abbrev lo1 : List PySem.Str := ["_law_number_by", "_law_operand_by", "_law_operands_by", "_law_row_by", "_law_program"]
abbrev loL : List PySem.Str := lo0 ++ lo1
abbrev R : PySem.W.OpenRow := PySem.W.OpenLaw.row PySem.Challenge.rw_fakehunt_k29_twins_in_groups
abbrev hk : PySem.W.Hook := PV.hookY faL fnL tsL Lw.exF
def ob (s : PySem.W.SharedT) : PV.AlY := PV.obsY faL fnL tsL Lw.exF (HandSHeadRun.getT s)
theorem ob_eq (s : PySem.W.SharedT) : ob s = hk.obs s.abs := PV.obsY_eq (HandSHeadRun.getT_eq s)
abbrev qv : Program := PySem.W.view R.prog [41]
theorem run_false (w : World) : HandSHeadRun.RunEq R qv hk ob 30000 loL (w.withFollow "special-get-raises" false) := by
  intro os
  kernel_rfl
theorem run_true (w : World) : HandSHeadRun.RunEq R qv hk ob 30000 loL (w.withFollow "special-get-raises" true) := by
  intro os
  kernel_rfl
theorem run (w : World) : HandSHeadRun.RunEq R qv hk ob 30000 loL w := PySem.W.byRow2 "special-get-raises" (P := fun w => HandSHeadRun.RunEq R qv hk ob 30000 loL w) run_false run_true w
end Lw
namespace PV
open PySem PySem.Spec PyProof.Rows L2

/-- a value of the program, as data (lists and dicts by what they hold) -/
inductive D where
  | non | bl (b : Bool) | int (i : Int) | str (s : Str)
  | tup (xs : List D) | lst (xs : List D) | dct (t : Bool) (kvs : List (D × D)) | ins (c : Nat) | gdc (kvs : List (D × D)) | gtp (xs : List D)
  | exc (c : Nat) (n : Int) | nst (xs : List D) | ndc (kvs : List (D × D)) | obj (c : Nat) (xs : List D)

def kD : Key → D
  | .inl i => .int i
  | .inr s => .str s
/-! keys that are tuples, nested -/
mutual
def nk : D → NestedKey
  | .int i => .num i
  | .str s => .text s
  | .tup xs => .tup (nks xs)
  | _ => .none
def nks : List D → List NestedKey
  | [] => []
  | x :: xs => nk x :: nks xs
end
def okKN : Nat → D → Bool
  | _, .int _ => true
  | _, .str _ => true
  | n + 1, .tup xs => xs.all (okKN n)
  | _, _ => false
def isKT : D → Bool
  | .tup xs => xs.all (okKN 7)
  | _ => false
abbrev NE := NestedKey × Addr × Value
/-- what a dict with such keys is -/
def DNo (w : World) (a : Addr) (xs : List NE) : HO := .ext fun h => (a == sysModules) = false ∧ xs.length ≤ sizeLine ∧ (xs.map (·.1)).Nodup ∧
  ∃ o es ep, h.get? a = some o ∧ o.ExactDict ∧ o.data = .dict es ep ∧ es.toList = xs.map fun x => ⟨x.1.hash w, .ref x.2.1, x.2.2⟩

def isM : HO → Bool
  | .tup _ => false
  | .frz _ _ => false
  | _ => true
/-- what stood, and was no one's own, stands, and is no one's own -/
def Ext (O : Addr → Prop) (H : Hp) (O' : Addr → Prop) (H' : Hp) : Prop := ∀ a u, H a = some u → ¬ O a → H' a = some u ∧ ¬ O' a
/-- an object kept in hand: what it is (class, its top, its addresses, what stands for data), how this lasts -/
abbrev ObT := Nat → Addr → (Addr → Prop) → (V → D → Prop) → Hp → List D → Prop
/-- what holds of a def's text: the written part, the addresses of the classes, the field of each class of exceptions -/
structure Wd where
  K : PySem.W.Frag
  w : World
  cl : Nat → Addr
  xn : Nat → Option Str := fun _ => none
  ob : ObT := fun _ _ _ _ _ _ => False
  obx : ∀ {c p} {F : Addr → Prop} {R R' : V → D → Prop} {H H' : Hp} {xs}, (∀ v d, R v d → R' v d) → (∀ a u, F a → H a = some u → H' a = some u) → ob c p F R H xs → ob c p F R' H' xs := by intros; assumption
/-- a caught exception's object -/
def xO (C a dx : Addr) : HO := .ext fun h => ∃ o vs, h.get? a = some o ∧ o.cls = .ref C ∧ o.dict = some dx ∧ o.data = .fields vs ∧ vs[2]? = some .none

mutual
/-- v stands for d in H, none of its lists or dicts among O -/
inductive Rep (G : Wd) (O : Addr → Prop) (H : Hp) : V → D → Prop
  | non : Rep G O H .non .non
  | bl (b : Bool) : Rep G O H (.bl b) (.bl b)
  | int (i : Int) : Rep G O H (.int i) (.int i)
  | str (x : Str) : Rep G O H (.str x) (.str x)
  | tupH {a : Addr} {xs : List V} {ds : List D} : Rd H a (.tup xs) → ¬ O a → Reps G O H xs ds → Rep G O H (.ref a) (.tup ds)
  | tupK {a : Addr} {xs : List V} {ds : List D} : (∀ H', SqT G.K H' a xs) → Reps G O H xs ds → Rep G O H (.ref a) (.tup ds)
  | lst {a : Addr} {xs : List V} {ds : List D} : Rd H a (.lst xs) → ¬ O a → Reps G O H xs ds → Rep G O H (.ref a) (.lst ds)
  | lstK {a : Addr} {xs : List V} {ds : List D} : (∀ H', SqL G.K H' a xs) → Reps G O H xs ds → Rep G O H (.ref a) (.lst ds)
  | dK {a : Addr} {kvs : List (Key × V)} {ds : List (D × D)} : H a = some (.dK kvs) → ¬ O a → RepsK G O H kvs ds → Rep G O H (.ref a) (.dct false ds)
  | dT {a : Addr} {xs : List NE} {ds : List (D × D)} : H a = some (DNo G.w a xs) → ¬ O a → RepsT G O H xs ds → Rep G O H (.ref a) (.dct true ds)
  | dG {a : Addr} {kvs : List (Key × V)} {ds : List (D × D)} : (∀ z v, valV kvs (.inr z) = some v → KDct G.K G.w a z v) → RepsK G O H kvs ds → Rep G O H (.ref a) (.gdc ds)
  | gT {a : Addr} {xs : List V} {ds : List D} : (∀ H', SqT G.K H' a xs) → (∃ o, G.K.lookup a = some o ∧ o.cls = .type "tuple" ∧ o.dict = none) → Reps G O H xs ds → Rep G O H (.ref a) (.gtp ds)
  | ins {a : Addr} {c : Nat} {dx : Addr} : H a = some (.ins (G.cl c) dx []) → ¬ O a → Rep G O H (.ref a) (.ins c)
  | exc {a dx : Addr} {c : Nat} {f : Str} {n : Int} : G.xn c = some f → H a = some (xO (G.cl c) a dx) → ¬ O a → H dx = some (.xd [(f, .int n)]) → ¬ O dx → Rep G O H (.ref a) (.exc c n)
  | nst {v : V} {ds : List D} : Rep G O H v (.lst ds) → Rep G O H v (.nst ds)
  | ndc {v : V} {ds : List (D × D)} : Rep G O H v (.dct true ds) → Rep G O H v (.ndc ds)
  | obj {a : Addr} {c : Nat} {ds : List D} : Rep G O H (.ref a) (.obj c ds)
inductive Reps (G : Wd) (O : Addr → Prop) (H : Hp) : List V → List D → Prop
  | nil : Reps G O H [] []
  | cons {v : V} {vs : List V} {d : D} {ds : List D} : Rep G O H v d → Reps G O H vs ds → Reps G O H (v :: vs) (d :: ds)
inductive RepsK (G : Wd) (O : Addr → Prop) (H : Hp) : List (Key × V) → List (D × D) → Prop
  | nil : RepsK G O H [] []
  | cons {k : Key} {v : V} {vs : List (Key × V)} {d : D} {ds : List (D × D)} : Rep G O H v d → RepsK G O H vs ds → RepsK G O H ((k, v) :: vs) ((kD k, d) :: ds)
inductive RepsT (G : Wd) (O : Addr → Prop) (H : Hp) : List NE → List (D × D) → Prop
  | nil : RepsT G O H [] []
  | cons {x : NE} {v : V} {xs : List NE} {k d : D} {ds : List (D × D)} : x.1 = nk k → isKT k = true → Rep G O H (.ref x.2.1) k → RelV v x.2.2 → Rep G O H v d → RepsT G O H xs ds → RepsT G O H (x :: xs) ((k, d) :: ds)
end

theorem Ext.trans {O O1 O2 : Addr → Prop} {H H1 H2 : Hp} (x : Ext O H O1 H1) (y : Ext O1 H1 O2 H2) : Ext O H O2 H2 := fun a u e n =>
  let ⟨e1, n1⟩ := x a u e n
  y a u e1 n1
theorem Ext.refl (O : Addr → Prop) (H : Hp) : Ext O H O H := fun _ _ e n => ⟨e, n⟩

section
variable {G : Wd} {O O' : Addr → Prop} {H H' : Hp}
theorem Ext.rd (x : Ext O H O' H') {a : Addr} {u : HO} (r : Rd H a u) (n : ¬ O a) : Rd H' a u ∧ ¬ O' a := by
  rcases r with r | ⟨o, r⟩
  · exact ⟨.inl (x a _ r n).1, (x a _ r n).2⟩
  · exact ⟨.inr ⟨o, (x a _ r n).1⟩, (x a _ r n).2⟩
mutual
theorem Rep.ext (x : Ext O H O' H') : ∀ {v : V} {d : D}, Rep G O H v d → Rep G O' H' v d
  | _, _, .non => .non
  | _, _, .bl b => .bl b
  | _, _, .int i => .int i
  | _, _, .str s => .str s
  | _, _, .tupH r n h => .tupH (x.rd r n).1 (x.rd r n).2 (Reps.ext x h)
  | _, _, .tupK r h => .tupK r (Reps.ext x h)
  | _, _, .lst r n h => .lst (x.rd r n).1 (x.rd r n).2 (Reps.ext x h)
  | _, _, .lstK r h => .lstK r (Reps.ext x h)
  | _, _, .dK r n h => .dK (x _ _ r n).1 (x _ _ r n).2 (RepsK.ext x h)
  | _, _, .dT r n h => .dT (x _ _ r n).1 (x _ _ r n).2 (RepsT.ext x h)
  | _, _, .dG r h => .dG r (RepsK.ext x h)
  | _, _, .gT r q h => .gT r q (Reps.ext x h)
  | _, _, .ins r n => .ins (x _ _ r n).1 (x _ _ r n).2
  | _, _, .exc e r n r' n' => .exc e (x _ _ r n).1 (x _ _ r n).2 (x _ _ r' n').1 (x _ _ r' n').2
  | _, _, .nst h => .nst (Rep.ext x h)
  | _, _, .ndc h => .ndc (Rep.ext x h)
  | _, _, .obj => .obj
theorem Reps.ext (x : Ext O H O' H') : ∀ {v : List V} {d : List D}, Reps G O H v d → Reps G O' H' v d
  | _, _, .nil => .nil
  | _, _, .cons h r => .cons (Rep.ext x h) (Reps.ext x r)
theorem RepsK.ext (x : Ext O H O' H') : ∀ {v : List (Key × V)} {d : List (D × D)}, RepsK G O H v d → RepsK G O' H' v d
  | _, _, .nil => .nil
  | _, _, .cons h r => .cons (Rep.ext x h) (RepsK.ext x r)
theorem RepsT.ext (x : Ext O H O' H') : ∀ {v : List NE} {d : List (D × D)}, RepsT G O H v d → RepsT G O' H' v d
  | _, _, .nil => .nil
  | _, _, .cons e1 e2 k rv h r => .cons e1 e2 (Rep.ext x k) rv (Rep.ext x h) (RepsT.ext x r)
end
theorem Reps.length : ∀ {vs : List V} {ds : List D}, Reps G O H vs ds → vs.length = ds.length
  | _, _, .nil => rfl
  | _, _, .cons _ r => by simp [Reps.length r]
theorem Reps.get : ∀ {vs : List V} {ds : List D} {i : Nat} {d : D}, Reps G O H vs ds → ds[i]? = some d → ∃ v, vs[i]? = some v ∧ Rep G O H v d
  | _, _, _, _, .nil, e => by simp at e
  | _, _, 0, _, .cons h _, e => by simp at e; subst e; exact ⟨_, rfl, h⟩
  | _, _, i + 1, _, .cons _ r, e => by simpa using Reps.get r (by simpa using e)
theorem Reps.get' : ∀ {vs : List V} {ds : List D} {i : Nat} {v : V}, Reps G O H vs ds → vs[i]? = some v → ∃ d, ds[i]? = some d ∧ Rep G O H v d
  | _, _, _, _, .nil, e => by simp at e
  | _, _, 0, _, .cons h _, e => by simp at e; subst e; exact ⟨_, rfl, h⟩
  | _, _, i + 1, _, .cons _ r, e => by simpa using Reps.get' r (by simpa using e)
theorem Reps.append : ∀ {vs : List V} {ds : List D} {vs' : List V} {ds' : List D}, Reps G O H vs ds → Reps G O H vs' ds' → Reps G O H (vs ++ vs') (ds ++ ds')
  | _, _, _, _, .nil, r => r
  | _, _, _, _, .cons h r, r' => .cons h (Reps.append r r')
theorem Reps.take : ∀ {vs : List V} {ds : List D} (n : Nat), Reps G O H vs ds → Reps G O H (vs.take n) (ds.take n)
  | _, _, 0, _ => .nil
  | _, _, _ + 1, .nil => .nil
  | _, _, n + 1, .cons h r => .cons h (Reps.take n r)
theorem Reps.drop : ∀ {vs : List V} {ds : List D} (n : Nat), Reps G O H vs ds → Reps G O H (vs.drop n) (ds.drop n)
  | _, _, 0, r => r
  | _, _, _ + 1, .nil => .nil
  | _, _, n + 1, .cons _ r => Reps.drop n r
theorem Reps.set : ∀ {vs : List V} {ds : List D} {v : V} {d : D} (n : Nat), Reps G O H vs ds → Rep G O H v d → Reps G O H (vs.set n v) (ds.set n d)
  | _, _, _, _, _, .nil, _ => .nil
  | _, _, _, _, 0, .cons _ r, h => .cons h r
  | _, _, _, _, n + 1, .cons h r, h' => .cons h (Reps.set n r h')
theorem Reps.eraseIdx : ∀ {vs : List V} {ds : List D} (n : Nat), Reps G O H vs ds → Reps G O H (vs.eraseIdx n) (ds.eraseIdx n)
  | _, _, _, .nil => .nil
  | _, _, 0, .cons _ r => r
  | _, _, n + 1, .cons h r => .cons h (Reps.eraseIdx n r)
theorem Reps.dropLast {vs : List V} {ds : List D} (h : Reps G O H vs ds) : Reps G O H vs.dropLast ds.dropLast := by
  rw [List.dropLast_eq_take, List.dropLast_eq_take, h.length]
  exact h.take _
end
end PV
namespace PV
open PySem PySem.Spec PyProof.Rows L2

/-! ### C(), a class without __init__ -/
structure MkO (K : PySem.W.Frag) (C : Addr) : Prop where
  makes : PySem.W.makesIn K C = true
  init : PySem.W.findIn K (.ref C) "__init__" = some (some (.builtin "object.__init__"))
  kp : PySem.W.keepIn K (.ref C) = true
  cl : Cls K C
  ca : PySem.W.findIn K (.ref C) "__class__" = some (some (.builtin "object.__class__"))
  cn : PySem.W.specialIn K (.builtin "object.__class__") "__get__" = some (some (.builtin "getset_descriptor.__get__"))
  ct : PySem.W.takesIn K (.builtin "object.__class__") = some true
  cm : PySem.W.mroIn K C (.type "object") = some true
/-- o.m(..), as it is read -/
theorem meth_eq {y m : Str} {yp apos pos : Pos} {xs : List Expr} {env : PySem.Env} (h : methodCallForm (xs.length + 0) (backTo pos (starEach xs env)) (backToKw pos (keywordEach [] env)) = true) (hl : (apos.endLine == pos.line) = true) :
    eval (.Call (.Attribute (.Name y yp) m apos) xs [] pos) env = (do
      let ov ← eval (.Name y yp) env
      standAt apos.atName
      let (f, first) ← holding [ov] (getMethod ov m (do return (← importBound (.Name y yp) env).getD true))
      callWith pos f first (backTo pos (starEach xs env)) (backToKw pos (keywordEach [] env))) := by
  have e1 : eval (.Call (.Attribute (.Name y yp) m apos) xs [] pos) env = (do
      let ov ← eval (.Name y yp) env
      standAt apos.atName
      methodCall (.Name y yp) m apos pos env ov (xs.length + 0) (backTo pos (starEach xs env)) (backToKw pos (keywordEach [] env))) := rfl
  rw [e1]
  congr 1; funext ov
  congr 1; funext _
  unfold methodCall calleeOf methodCallPos
  rw [h, hl]
  simp
section
variable {X : Cx} {C : Addr} {pins : List (Addr × Obj)} {σ : L2.St} {H : Hp} {s : Shared} {Q : VK}
theorem run_make0 (M : MkO X.K C) (I : Inv X pins σ H s) (h : ∀ x dx, H x = none → H dx = none → dx ≠ x → Q (.ref x) (upd (upd H dx (.own x)) x (.ins C dx []))) : wpAny (model X.prog X.w) X.A (call (.ref C) []) (EP X pins σ Q) X.xe s := by
  have hq := h (s.heap.objs.size + 1) s.heap.objs.size (I.hok.fresh (Nat.le_succ _)) (I.hok.fresh (Nat.le_refl _)) (Nat.ne_of_lt (Nat.lt_succ_self _))
  have I2 := Inv.made (C := C) I
  refine wpAny_call (make_map0 I.kIn M.makes M.init (fun self => PySem.W.Looks.of_pure (PySem.W.oi_bind _)) ?_)
  have ho : ((s.heap.push PySem.W.emptyDict).push (PySem.W.instObj C s.heap.objs.size)).get? (s.heap.objs.size + 1) = some (PySem.W.instObj C s.heap.objs.size) := by
    have := Heap.get?_push_size (s.heap.push PySem.W.emptyDict) (o := PySem.W.instObj C s.heap.objs.size) rfl
    rwa [Heap.size_push] at this
  have t1 : PySem.W.Looks (model X.prog X.w) ((s.heap.push PySem.W.emptyDict).push (PySem.W.instObj C s.heap.objs.size)) (typeOf (.ref (s.heap.objs.size + 1))) (.ref C) := NwA.type_at ho rfl
  have top := (PySem.W.makes_of (M := model X.prog X.w) I2.kIn M.makes).top
  have t2 : PySem.W.Looks (model X.prog X.w) ((s.heap.push PySem.W.emptyDict).push (PySem.W.instObj C s.heap.objs.size)) (isInstance (.ref (s.heap.objs.size + 1)) (.type "object")) true := t1.andThen top
  refine codeAny_call_builtin PySem.W.oi_plain PySem.W.entry_oi (@PySem.W.check_slot (model X.prog X.w) _ _ _ "object.__init__" "object" "__init__" (.ref (s.heap.objs.size + 1)) [] [] _ PySem.W.oi_kind PySem.W.oi_split t2 (NwA.oi_args_any _ [] []) ?_)
  rw [PySem.W.oi_run]
  exact wpAny_pure (And.intro rfl (show EP X pins σ Q (.ref (s.heap.objs.size + 1)) _ from ⟨.ref (s.heap.objs.size + 1), _, I2, rfl, hq⟩))
variable {x : Str} {p pos : Pos}
theorem pe_mk0 (M : MkO X.K C) (hg : Gl X x) (hm : X.mg x = some (.ref C)) (hdb : (x == ("__debug__" : Str)) = false) :
    PE X (.Call (.Name x p) [] [] pos) (fun σ H Q => ∀ x dx, H x = none → H dx = none → dx ≠ x → Q (.ref x) (upd (upd H dx (.own x)) x (.ins C dx []))) := by
  refine ⟨fun pins s σ H Q I h => ?_⟩
  refine wpAny_Call_Name_kw (ld_glob I hg hm ?_ hdb)
  exact PySem.W.callWith_K0 I.kIn M.kp (run_make0 M I h)
end
end PV
set_option maxHeartbeats 4000000
namespace PV
open PySem PySem.Spec PyProof.Rows L2 L2H HotX

/-! ### iterators that end while an exception is handled -/
section
variable {prog : Program} {w : World} {A : Around} {E : Value → Shared → Prop} {s : Shared}
/-- StopIteration, new, raised there: it is none of what stood before -/
theorem stop_hot {α : Type} {x1 : Addr} {Q : α → Shared → Prop} (hot : HotAt A x1 s.heap)
    (hE : ∀ (a : Addr) (h' : Heap), (∀ b o, s.heap.get? b = some o → h'.get? b = some o) → (∃ o, h'.get? a = some o ∧ o.cls = .type "StopIteration") → E (.ref a) { s with heap := h' }) :
    wpAny (model prog w) A (newExc (.type "StopIteration") [] >>= fun e => (raiseNew e : Sem α)) Q E s := by
  obtain ⟨hd, ob, vv, g1, g2, g3⟩ := hot
  refine wpAny_bind ?_
  simp only [newExc, newTuple]
  refine wpAny_bind (wpAny_newObj_type ?_ (by size_fits))
  have fa : ∀ {Q' : Value → Shared → Prop} {s' : Shared}, Q' .none s' → wpAny (model prog w) A (firstArgMember (.type "StopIteration") []) Q' E s' := fun q => by
    refine wpAny_of_eq (a := Value.none) ?_ q
    first
      | rfl
      | (simp only [firstArgMember]; rfl)
  refine wpAny_bind (fa (wpAny_newObj_type ?_ (by size_fits)))
  have up := fun (b : Addr) (o : Obj) (e : s.heap.get? b = some o) (p q : Obj) => Heap.get?_push_of_some (h := s.heap.push p) q (Heap.get?_push_of_some p e)
  refine raiseNew_hot ⟨hd, ob, vv, up _ _ g1 _ _, g2, g3⟩ (Nat.ne_of_lt (Heap.lt_size (Heap.get?_push_of_some _ g1))) (Heap.get?_push_size _ rfl) rfl ?_ (hE _ _ (fun b o e => ?_) ⟨_, Heap.get?_update_self _ (Heap.get?_push_size _ rfl) rfl, rfl⟩)
  · first
      | (simp; done)
      | (simp; omega)
  · rw [Heap.get?_update_other _ _ (Nat.ne_of_gt (Heap.lt_size (Heap.get?_push_of_some _ e)))]
    exact up b o e _ _
theorem nextL_end {it l : Addr} {i : Nat} {xs : Array Value} {x1 : Addr} {Q : Option Value → Shared → Prop} (hot : HotAt A x1 s.heap) (ni : x1 ≠ it) (h1 : s.heap.IsListIter it l i) (h2 : s.heap.IsList l xs) (h3 : xs[i]? = none)
    (k : ∀ h', Heap.ExtBut it s.heap h' → Q none { s with heap := h' }) : wpAny (model prog w) A (pyNext (.ref it)) Q E s := by
  obtain ⟨oi, e1, e2, e3⟩ := id h1
  obtain ⟨ol, f1, _, nl, f3⟩ := h2
  obtain ⟨hd, ob, vv, g1, g2, g3⟩ := hot
  unfold pyNext
  refine wpAny_bind (wpAny_attempt (wpAny_callSpecial?_slot (name := Str.ofString "__next__") h1.typeIs slot_listiter_next (wpAny_call_entry slot_listiter_next h1.typeIs entry_listiter_next ?_ (args_listiter_next _))))
  show wpAny _ A.in1 (field (.ref it) 0 >>= _) _ _ s
  refine wpAny_bind (wpAny_field e1 e3 (x := .ref l) rfl ?_)
  show wpAny _ _ (if (Value.ref l == Value.none) = true then _ else (field (.ref it) 1 >>= _)) _ _ s
  rw [if_neg (show ¬ ((Value.ref l == Value.none) = true) from fun z => Bool.noConfusion z)]
  refine wpAny_bind (wpAny_field e1 e3 (x := .int i 0) rfl (wpAny_bind (wpAny_seqItems f1 f3 ?_)))
  simp only [Int.toNat_natCast, h3]
  refine wpAny_bind (wpAny_rule (wpAny_bind (wpAny_setField e1 e3 (by simp) ?_)))
  have sb := Heap.SameBut.update s.heap it (Obj.mapFields (·.setIfInBounds 0 Value.none))
  refine stop_hot ⟨hd, ob, vv, (sb.2 x1 ni).trans g1, g2, g3⟩ fun a h' kk hs => ?_
  obtain ⟨o, ho, hc⟩ := hs
  refine wpAny_bind (wpAny_isInstance (T := "StopIteration") (b := true) ⟨o, ho, hc⟩ isSubtype_stop (wpAny_pure (k _ fun b o hb e => kk b o ((sb.2 b hb).trans e))))
theorem nextT_end {it t : Addr} {i : Nat} {xs : Array Value} {x1 : Addr} {Q : Option Value → Shared → Prop} (hot : HotAt A x1 s.heap) (ni : x1 ≠ it) (h1 : s.heap.IsTupleIter it t i) (h2 : s.heap.IsTuple t xs) (h3 : xs[i]? = none)
    (k : ∀ h', Heap.ExtBut it s.heap h' → Q none { s with heap := h' }) : wpAny (model prog w) A (pyNext (.ref it)) Q E s := by
  obtain ⟨oi, e1, e2, e3⟩ := id h1
  obtain ⟨ol, f1, _, nl, f3⟩ := h2
  obtain ⟨hd, ob, vv, g1, g2, g3⟩ := hot
  unfold pyNext
  refine wpAny_bind (wpAny_attempt (wpAny_callSpecial?_slot (name := Str.ofString "__next__") h1.typeIs F.slot_tuple_iterator_next (wpAny_call_entry F.slot_tuple_iterator_next h1.typeIs F.entry_tuple_iterator_next ?_ (F.args_tuple_iterator_next_1 _))))
  show wpAny _ A.in1 (field (.ref it) 0 >>= _) _ _ s
  refine wpAny_bind (wpAny_field e1 e3 (x := .ref t) rfl ?_)
  show wpAny _ _ (if (Value.ref t == Value.none) = true then _ else (field (.ref it) 1 >>= _)) _ _ s
  rw [if_neg (show ¬ ((Value.ref t == Value.none) = true) from fun z => Bool.noConfusion z)]
  refine wpAny_bind (wpAny_field e1 e3 (x := .int i 0) rfl (wpAny_bind (wpAny_seqItems f1 f3 ?_)))
  simp only [Int.toNat_natCast, h3]
  refine wpAny_bind (wpAny_rule (wpAny_bind (wpAny_setField e1 e3 (by simp) ?_)))
  have sb := Heap.SameBut.update s.heap it (Obj.mapFields (·.setIfInBounds 0 Value.none))
  refine stop_hot ⟨hd, ob, vv, (sb.2 x1 ni).trans g1, g2, g3⟩ fun a h' kk hs => ?_
  obtain ⟨o, ho, hc⟩ := hs
  refine wpAny_bind (wpAny_isInstance (T := "StopIteration") (b := true) ⟨o, ho, hc⟩ isSubtype_stop (wpAny_pure (k _ fun b o hb e => kk b o ((sb.2 b hb).trans e))))
theorem nextS_end {it : Addr} {x : Str} {t : Tok} {i : Nat} {x1 : Addr} {Q : Option Value → Shared → Prop} (hot : HotAt A x1 s.heap) (ni : x1 ≠ it) (ty : String) (hty : ty = "str_ascii_iterator" ∨ ty = "str_iterator") (h1 : s.heap.IsStrIter it ty x t i) (h3 : x.cps[i]? = none)
    (k : ∀ h', Heap.ExtBut it s.heap h' → Q none { s with heap := h' }) : wpAny (model prog w) A (pyNext (.ref it)) Q E s := by
  obtain ⟨oi, e1, e2, e3⟩ := id h1
  obtain ⟨hd, ob, vv, g1, g2, g3⟩ := hot
  have sb := Heap.SameBut.update s.heap it (Obj.mapFields (·.setIfInBounds 0 Value.none))
  unfold pyNext
  rcases hty with rfl | rfl
  · refine wpAny_bind (wpAny_attempt (wpAny_callSpecial?_slot (name := Str.ofString "__next__") h1.typeIs F.slot_str_ascii_iterator_next (wpAny_call_entry F.slot_str_ascii_iterator_next h1.typeIs F.entry_str_ascii_iterator_next ?_ (F.args_str_ascii_iterator_next_1 _))))
    show wpAny _ A.in1 (field (.ref it) 0 >>= _) _ _ s
    refine wpAny_bind (wpAny_field e1 e3 (x := .str x t) rfl ?_)
    show wpAny _ A.in1 (field (.ref it) 1 >>= _) _ _ s
    refine wpAny_bind (wpAny_field e1 e3 (x := .int i 0) rfl ?_)
    simp only [Int.toNat_natCast, h3]
    refine wpAny_bind (wpAny_rule (wpAny_bind (wpAny_setField e1 e3 (by simp) (wpAny_bind (wpAny_letGo ?_)))))
    refine stop_hot ⟨hd, ob, vv, (sb.2 x1 ni).trans g1, g2, g3⟩ fun a h' kk hs => ?_
    obtain ⟨o, ho, hc⟩ := hs
    exact wpAny_bind (wpAny_isInstance (T := "StopIteration") (b := true) ⟨o, ho, hc⟩ isSubtype_stop (wpAny_pure (k _ fun b o hb e => kk b o ((sb.2 b hb).trans e))))
  · refine wpAny_bind (wpAny_attempt (wpAny_callSpecial?_slot (name := Str.ofString "__next__") h1.typeIs F.slot_str_iterator_next (wpAny_call_entry F.slot_str_iterator_next h1.typeIs F.entry_str_iterator_next ?_ (F.args_str_iterator_next_1 _))))
    show wpAny _ A.in1 (field (.ref it) 0 >>= _) _ _ s
    refine wpAny_bind (wpAny_field e1 e3 (x := .str x t) rfl ?_)
    show wpAny _ A.in1 (field (.ref it) 1 >>= _) _ _ s
    refine wpAny_bind (wpAny_field e1 e3 (x := .int i 0) rfl ?_)
    simp only [Int.toNat_natCast, h3]
    refine wpAny_bind (wpAny_rule (wpAny_bind (wpAny_setField e1 e3 (by simp) (wpAny_bind (wpAny_letGo ?_)))))
    refine stop_hot ⟨hd, ob, vv, (sb.2 x1 ni).trans g1, g2, g3⟩ fun a h' kk hs => ?_
    obtain ⟨o, ho, hc⟩ := hs
    exact wpAny_bind (wpAny_isInstance (T := "StopIteration") (b := true) ⟨o, ho, hc⟩ isSubtype_stop (wpAny_pure (k _ fun b o hb e => kk b o ((sb.2 b hb).trans e))))
/-! ### a tuple, a list unpacked there -/
theorem unpT_hot {t : Addr} {xs : Array Value} {x1 : Addr} {Q : List Value → Shared → Prop} (hot : HotAt A x1 s.heap) (ht : IsTup s.heap t xs) (k : ∀ h', Heap.ExtBut s.heap.objs.size s.heap h' → Q xs.toList { s with heap := h' }) :
    wpAny (model prog w) A (unpackItems (.ref t) xs.size none) Q E s := by
  have ne : t ≠ s.heap.objs.size := by obtain ⟨o, ho, _⟩ := ht; exact Nat.ne_of_lt (Heap.lt_size ho)
  obtain ⟨hd, ob, vv, g1, g2, g3⟩ := hot
  have n1 : x1 ≠ s.heap.objs.size := Nat.ne_of_lt (Heap.lt_size g1)
  unfold unpackItems
  refine wpAny_bind ?_
  unfold notIterableAtAll
  refine wpAny_bind (wpAny_specialOf ht.typeIs slot_tuple_iter.lookup (wpAny_pure ?_))
  simp only [Bool.false_eq_true, if_false]
  refine wpAny_bind (wpAny_holding (iter_tuple ht (wpAny_bind (wpAny_holding (draw_tuple ne xs.size 0 _ _ ⟨_, Heap.get?_push_size _ rfl, rfl, rfl⟩ (ht.push _) (by omega) fun h2 i2 s2 => ?_)))))
  rw [show List.take xs.size (List.drop 0 xs.toList) = xs.toList by rw [List.drop_zero]; exact List.take_of_length_le (by simp), if_neg (by simp)]
  have t2 : IsTup h2 t xs := (ht.push _).extBut s2.extBut ne
  refine wpAny_bind (wpAny_holding (nextT_end ⟨hd, ob, vv, (s2.2 x1 n1).trans (Heap.get?_push_of_some _ g1), g2, g3⟩ n1 i2 t2 (by simp) fun h3 e3 => ?_))
  simp only [Option.isSome_none, Bool.false_eq_true, if_false]
  exact wpAny_pure (k h3 fun b o hb e => e3 b o hb (s2.extBut b o hb (Heap.get?_push_of_some _ e)))
theorem unpL_hot {l : Addr} {xs : Array Value} {x1 : Addr} {Q : List Value → Shared → Prop} (hot : HotAt A x1 s.heap) (hl : s.heap.IsList l xs) (k : ∀ h', Heap.ExtBut s.heap.objs.size s.heap h' → Q xs.toList { s with heap := h' }) :
    wpAny (model prog w) A (unpackItems (.ref l) xs.size none) Q E s := by
  have ne : l ≠ s.heap.objs.size := by obtain ⟨o, ho, _⟩ := hl; exact Nat.ne_of_lt (Heap.lt_size ho)
  obtain ⟨hd, ob, vv, g1, g2, g3⟩ := hot
  have n1 : x1 ≠ s.heap.objs.size := Nat.ne_of_lt (Heap.lt_size g1)
  unfold unpackItems
  refine wpAny_bind ?_
  unfold notIterableAtAll
  refine wpAny_bind (wpAny_specialOf hl.typeIs slot_list_iter.lookup (wpAny_pure ?_))
  simp only [Bool.false_eq_true, if_false]
  refine wpAny_bind (wpAny_holding (wpAny_pyIter_list hl (wpAny_bind (wpAny_holding (PySem.W.kun_draw ne xs.size 0 _ _ ⟨_, Heap.get?_push_size _ rfl, rfl, rfl⟩ (hl.push _) (by omega) fun h2 i2 s2 => ?_)))))
  rw [show List.take xs.size (List.drop 0 xs.toList) = xs.toList by rw [List.drop_zero]; exact List.take_of_length_le (by simp), if_neg (by simp)]
  have l2 : h2.IsList l xs := (hl.push _).extBut s2.extBut ne
  refine wpAny_bind (wpAny_holding (nextL_end ⟨hd, ob, vv, (s2.2 x1 n1).trans (Heap.get?_push_of_some _ g1), g2, g3⟩ n1 i2 l2 (by simp) fun h3 e3 => ?_))
  simp only [Option.isSome_none, Bool.false_eq_true, if_false]
  exact wpAny_pure (k h3 fun b o hb e => e3 b o hb (s2.extBut b o hb (Heap.get?_push_of_some _ e)))
end
end PV
set_option maxHeartbeats 4000000
namespace PV
open PySem PySem.Spec PyProof.Rows L2 L2H HotX

/-! ### calm, or an exception that is handled stands tracked -/
def HotH (X : Cx) (H : Hp) : Prop := ∃ a C dx : Addr, X.A.handled = some (.ref a) ∧ H a = some (xO C a dx)
def Warm (X : Cx) (H : Hp) : Prop := X.calm = true ∨ HotH X H
section
variable {X : Cx} {pins : List (Addr × Obj)} {σ : L2.St} {H : Hp} {s : Shared}
theorem xO_at {P : Program} {w : World} {H : Hp} {h : Heap} {C a dx : Addr} (hok : HOk P w H h) (e : H a = some (xO C a dx)) : ∃ o vs, h.get? a = some o ∧ o.cls = .ref C ∧ o.dict = some dx ∧ o.data = .fields vs ∧ vs[2]? = some .none := by
  have x : ObjOk P w H h a (.ext fun h => ∃ o vs, h.get? a = some o ∧ o.cls = .ref C ∧ o.dict = some dx ∧ o.data = .fields vs ∧ vs[2]? = some .none) := hok a _ e
  exact x.1
/-- the handled exception, and that it is no record of ours that turns -/
theorem hot_at (c : HotH X H) (I : Inv X pins σ H s) : ∃ x1, HotAt X.A x1 s.heap ∧ ∀ b, FpOk X pins H b → x1 ≠ b := by
  obtain ⟨a, C, dx, hd, e⟩ := c
  obtain ⟨o, vs, e1, _, _, e2, e3⟩ := xO_at I.hok e
  refine ⟨a, ⟨hd, o, vs, e1, e2, e3⟩, fun b f z => ?_⟩
  have f0 := f.1
  rw [← z, e] at f0
  cases f0
end
/-- an iterator's turns while an exception is handled -/
structure TurnW (P : Program) (w : World) (K : PySem.W.Frag) (tg : Expr) (J : It) (fp : List Addr) (it : Addr) (tn : Nat → Heap → Prop) : Prop where
  mem : it ∈ fp
  obj : ∀ i h, tn i h → ∀ b ∈ fp, ∃ o, h.get? b = some o ∧ ∀ v, o.data ≠ .cell v
  keep : ∀ i h h', tn i h → (∀ b ∈ fp, ∀ o, h.get? b = some o → h'.get? b = some o) → tn i h'
  item : ∀ (X : Cx), X.prog = P → X.w = w → X.K = K → ∀ (i : Nat) (pins : List (Addr × Obj)) (s : Shared) (σ : L2.St) (H : Hp) (E : Value → Shared → Prop), Inv X pins σ H s → (∀ b ∈ fp, FpOk X pins H b) → tn i s.heap → J.go i H →
    wpAny (model P w) X.A (pyNext (.ref it)) (fun r s1 => ∃ u, r = some u ∧ wpAny (model P w) X.A (letOwnedTupleGo tg (.ref it) u) (fun _ s2 => ∃ x H', Inv X pins σ H' s2 ∧ RelV x u ∧ J.yld i H x H' ∧ tn (i + 1) s2.heap ∧ ∀ b ∈ fp, H' b = none) E s1) E s
  done : ∀ (X : Cx), X.prog = P → X.w = w → X.K = K → ∀ (i : Nat) (pins : List (Addr × Obj)) (s : Shared) (σ : L2.St) (H : Hp) (E : Value → Shared → Prop), HotH X H → Inv X pins σ H s → (∀ b ∈ fp, FpOk X pins H b) → tn i s.heap → J.stop i H →
    wpAny (model P w) X.A (pyNext (.ref it)) (fun r s1 => r = none ∧ Inv X pins σ H s1) E s
  self : ∀ (A : Around) (i : Nat) (s : Shared) (Q : Value → Shared → Prop) (E : Value → Shared → Prop), tn i s.heap → Q (.ref it) s → wpAny (model P w) A (pyIter (.ref it)) Q E s
section
variable {P : Program} {w : World} {K : PySem.W.Frag} {tg : Expr}
theorem turnL_hot (a it : Addr) : TurnW P w K tg (Itl K a) [it] it (fun i h => h.IsListIter it a i) := by
  have T := turn_list (P := P) (w := w) (K := K) (tg := tg) a it
  refine ⟨T.mem, T.obj, T.keep, ?_, ?_, T.self⟩
  · intro X hP hw hK i pins s σ H E I hf st hg
    subst hP hw hK
    obtain ⟨xs, x, hq, hx⟩ := hg
    obtain ⟨its, rv, p, hz⟩ := I.list hq
    obtain ⟨u, hu, ru⟩ := rv.get hx
    obtain ⟨f0, f1, f2, f3, f4, f5⟩ := hf it (by simp)
    refine wpAny_pyNext_list_item st p.isList (x := u) (by simpa using hu) fun g st2 sb => ?_
    have J : Inv X pins σ H { s with heap := g } := I.turned (t' := s.toks) (fun b o nb q => (sb.2 b nb).trans q) f0 f1 f3 f4 f5
    obtain ⟨o, e, c, d⟩ := id st2
    exact ⟨u, rfl, go_of (s := { s with heap := g }) e c d (by decide) ⟨x, H, J, ru, ⟨rfl, fun ys hy => by rw [J.list_inj hy hq]; exact hx⟩, st2, fun b hb => (hf b hb).1⟩⟩
  · intro X hP hw hK i pins s σ H E hc I hf st hg
    subst hP hw hK
    obtain ⟨xs, hq, hx⟩ := hg
    obtain ⟨its, rv, p, hz⟩ := I.list hq
    obtain ⟨f0, f1, f2, f3, f4, f5⟩ := hf it (by simp)
    obtain ⟨x1, hot, ni⟩ := hot_at hc I
    have hl := rv.length
    exact nextL_end hot (ni it (hf it (by simp))) st p.isList (by simp; omega) fun g eb => ⟨rfl, I.turned (t' := s.toks) (fun b o nb q => eb b o nb q) f0 f1 f3 f4 f5⟩
theorem turnT_hot (a it : Addr) : TurnW P w K tg (Itt K a) [it] it (fun i h => h.IsTupleIter it a i) := by
  have T := turn_tuple (P := P) (w := w) (K := K) (tg := tg) a it
  refine ⟨T.mem, T.obj, T.keep, ?_, ?_, T.self⟩
  · intro X hP hw hK i pins s σ H E I hf st hg
    subst hP hw hK
    obtain ⟨xs, x, hq, hx⟩ := hg
    obtain ⟨its, rv, p, hz⟩ := I.tuple hq
    obtain ⟨u, hu, ru⟩ := rv.get hx
    obtain ⟨f0, f1, f2, f3, f4, f5⟩ := hf it (by simp)
    refine wpAny_pyNext_tuple_item st (show s.heap.IsTuple a its.toArray from p) (x := u) (by simpa using hu) fun g st2 sb => ?_
    have J : Inv X pins σ H { s with heap := g } := I.turned (t' := s.toks) (fun b o nb q => (sb.2 b nb).trans q) f0 f1 f3 f4 f5
    obtain ⟨o, e, c, d⟩ := id st2
    exact ⟨u, rfl, go_of (s := { s with heap := g }) e c d (by decide) ⟨x, H, J, ru, ⟨rfl, fun ys hy => by rw [J.tuple_inj hy hq]; exact hx⟩, st2, fun b hb => (hf b hb).1⟩⟩
  · intro X hP hw hK i pins s σ H E hc I hf st hg
    subst hP hw hK
    obtain ⟨xs, hq, hx⟩ := hg
    obtain ⟨its, rv, p, hz⟩ := I.tuple hq
    obtain ⟨f0, f1, f2, f3, f4, f5⟩ := hf it (by simp)
    obtain ⟨x1, hot, ni⟩ := hot_at hc I
    have hl := rv.length
    exact nextT_end hot (ni it (hf it (by simp))) st (show s.heap.IsTuple a its.toArray from p) (by simp; omega) fun g eb => ⟨rfl, I.turned (t' := s.toks) (fun b o nb q => eb b o nb q) f0 f1 f3 f4 f5⟩
theorem turnS_hot (it : Addr) (x : Str) (t : Tok) (ty : String) (hty : ty = "str_ascii_iterator" ∨ ty = "str_iterator") : TurnW P w K tg (Its x) [it] it (fun i h => h.IsStrIter it ty x t i) := by
  have T := turn_str (P := P) (w := w) (K := K) (tg := tg) it x t ty hty
  refine ⟨T.mem, T.obj, T.keep, ?_, ?_, T.self⟩
  · intro X hP hw hK i pins s σ H E I hf st hg
    subst hP hw hK
    obtain ⟨f0, f1, f2, f3, f4, f5⟩ := hf it (by simp)
    have hlt : i < x.cps.size := hg
    have hx : x.cps[i]? = some x.cps[i] := Array.getElem?_eq_getElem hlt
    have hno : ["enumerate", "zip", "dict_itemiterator", "dict_reverseitemiterator", "odict_iterator", "itertools.zip_longest", "itertools.pairwise"].contains ty = false := by
      rcases hty with e | e <;> rw [e] <;> decide
    have fin : ∀ g, g.IsStrIter it ty x t (i + 1) → Heap.SameBut it s.heap g → ∃ u, some (Value.str ⟨#[x.cps[i]]⟩ s.toks) = some u ∧
        wpAny (model X.prog X.w) X.A (letOwnedTupleGo tg (.ref it) u) (fun _ s2 => ∃ y H', Inv X pins σ H' s2 ∧ RelV y u ∧ (Its x).yld i H y H' ∧ s2.heap.IsStrIter it ty x t (i + 1) ∧ ∀ b ∈ [it], H' b = none) E { s with heap := g, toks := s.toks + 1 } := fun g st2 sb => by
      have J : Inv X pins σ H { s with heap := g, toks := s.toks + 1 } := I.turned (fun b o nb q => (sb.2 b nb).trans q) f0 f1 f3 f4 f5
      obtain ⟨o, e, c, d⟩ := id st2
      exact ⟨_, rfl, go_of (s := { s with heap := g, toks := s.toks + 1 }) e c d hno ⟨.str ⟨#[x.cps[i]]⟩, H, J, ⟨_, rfl⟩, ⟨rfl, _, hx, rfl⟩, st2, fun b hb => (hf b hb).1⟩⟩
    rcases hty with rfl | rfl
    · exact wpAny_pyNext_ascii_item st hx fin
    · exact wpAny_pyNext_wide_item st hx fin
  · intro X hP hw hK i pins s σ H E hc I hf st hg
    subst hP hw hK
    obtain ⟨f0, f1, f2, f3, f4, f5⟩ := hf it (by simp)
    obtain ⟨x1, hot, ni⟩ := hot_at hc I
    exact nextS_end hot (ni it (hf it (by simp))) ty hty st (Array.getElem?_eq_none hg) fun g eb => ⟨rfl, I.turned (t' := s.toks) (fun b o nb q => eb b o nb q) f0 f1 f3 f4 f5⟩
end

/-! ### walks, calm or hot -/
/-- an iterator's turns in X -/
def TB (X : Cx) (tg : Expr) (J : It) (fp : List Addr) (it : Addr) (tn : Nat → Heap → Prop) : Prop :=
  (X.calm = true ∧ Turn X.prog X.w X.K tg J fp it tn) ∨ (X.calm = false ∧ TurnW X.prog X.w X.K tg J fp it tn)
section
variable {X Y : Cx} {tg : Expr} {J : It} {fp : List Addr} {it : Addr} {tn : Nat → Heap → Prop}
theorem TB.obj (T : TB X tg J fp it tn) : ∀ i h, tn i h → ∀ b ∈ fp, ∃ o, h.get? b = some o ∧ ∀ v, o.data ≠ .cell v := T.elim (fun t => t.2.obj) fun t => t.2.obj
theorem TB.keep (T : TB X tg J fp it tn) : ∀ i h h', tn i h → (∀ b ∈ fp, ∀ o, h.get? b = some o → h'.get? b = some o) → tn i h' := T.elim (fun t => t.2.keep) fun t => t.2.keep
theorem TB.self (T : TB X tg J fp it tn) {A : Around} {i : Nat} {s : Shared} {Q : Value → Shared → Prop} {E : Value → Shared → Prop} (st : tn i s.heap) (q : Q (.ref it) s) : wpAny (model X.prog X.w) A (pyIter (.ref it)) Q E s :=
  T.elim (fun t => t.2.self A i s Q E st q) fun t => t.2.self A i s Q E st q
/-- Y is X itself or a block in it -/
structure Like (X Y : Cx) : Prop where
  p : Y.prog = X.prog
  w : Y.w = X.w
  K : Y.K = X.K
  c : Y.calm = X.calm
  a : Y.A = X.A
theorem Like.refl (X : Cx) : Like X X := ⟨rfl, rfl, rfl, rfl, rfl⟩
theorem Warm.hot {X : Cx} {H : Hp} (w : Warm X H) (c : X.calm = false) : HotH X H := w.elim (fun h => by rw [c] at h; cases h) id
theorem TB.item (T : TB X tg J fp it tn) (l : Like X Y) {i : Nat} {pins : List (Addr × Obj)} {s : Shared} {σ : L2.St} {H : Hp} (E : Value → Shared → Prop) (I : Inv Y pins σ H s) (hf : ∀ b ∈ fp, FpOk Y pins H b) (st : tn i s.heap) (hg : J.go i H) :
    wpAny (model X.prog X.w) Y.A (pyNext (.ref it)) (fun r s1 => ∃ u, r = some u ∧
      wpAny (model X.prog X.w) Y.A (letOwnedTupleGo tg (.ref it) u) (fun _ s2 => ∃ x H', Inv Y pins σ H' s2 ∧ RelV x u ∧ J.yld i H x H' ∧ tn (i + 1) s2.heap ∧ ∀ b ∈ fp, H' b = none) E s1) E s := by
  rcases T with ⟨c, t⟩ | ⟨c, t⟩
  · exact t.item Y l.p l.w l.K (l.c.trans c) i pins s σ H E I hf st hg
  · exact t.item Y l.p l.w l.K i pins s σ H E I hf st hg
theorem TB.done (T : TB X tg J fp it tn) (l : Like X Y) {i : Nat} {pins : List (Addr × Obj)} {s : Shared} {σ : L2.St} {H : Hp} (E : Value → Shared → Prop) (wm : Warm X H) (I : Inv Y pins σ H s) (hf : ∀ b ∈ fp, FpOk Y pins H b) (st : tn i s.heap) (hg : J.stop i H) :
    wpAny (model X.prog X.w) Y.A (pyNext (.ref it)) (fun r s1 => r = none ∧ Inv Y pins σ H s1) E s := by
  rcases T with ⟨c, t⟩ | ⟨c, t⟩
  · exact t.done Y l.p l.w l.K (l.c.trans c) i pins s σ H E I hf st hg
  · refine t.done Y l.p l.w l.K i pins s σ H E ?_ I hf st hg
    obtain ⟨a, C, dx, h1, h2⟩ := wm.hot c
    exact ⟨a, C, dx, by rw [l.a]; exact h1, h2⟩
end
def PIEB (X : Cx) (pins : List (Addr × Obj)) (σ : L2.St) (tg : Expr) (R : It → Hp → Prop) (itv : Value) (s2 : Shared) : Prop :=
  ∃ (it : Addr) (fp : List Addr) (tn : Nat → Heap → Prop) (J : It) (H' : Hp), itv = .ref it ∧ Inv X pins σ H' s2 ∧ TB X tg J fp it tn ∧ tn 0 s2.heap ∧ (∀ b ∈ fp, FpOk X pins H' b) ∧ R J H'
/-- a source is walked -/
structure PIB (X : Cx) (tg iter : Expr) (wi : TI) : Prop where
  run : ∀ (pins : List (Addr × Obj)) (s : Shared) (σ : L2.St) (H : Hp) (R : It → Hp → Prop), Inv X pins σ H s → wi σ H R →
    wpAny (model X.prog X.w) X.A (eval iter X.env) (fun v s1 => wpAny (model X.prog X.w) X.A (pyIter v) (PIEB X pins σ tg R) X.xe s1) X.xe s
section
variable {X : Cx} {tg : Expr}
theorem PIB.ofC {iter : Expr} {wi : TI} (hc : X.calm = true) (h : PI X tg iter wi) : PIB X tg iter wi := ⟨fun pins s σ H R I q => thn (h.run pins s σ H R I q) fun v s1 h1 => thn h1 fun itv s2 ⟨it, fp, tn, J, H', e, I', T, r⟩ => ⟨it, fp, tn, J, H', e, I', .inl ⟨hc, T⟩, r⟩⟩
theorem PIB.imp {e : Expr} {t t' : TI} (h : PIB X tg e t) (w : ∀ σ H Q, t' σ H Q → t σ H Q) : PIB X tg e t' := ⟨fun pins s σ H Q I hw => h.run pins s σ H Q I (w σ H Q hw)⟩
theorem PIB.or {e : Expr} {t t' : TI} (h : PIB X tg e t) (h' : PIB X tg e t') : PIB X tg e (fun σ H R => t σ H R ∨ t' σ H R) := ⟨fun pins s σ H R I hw => hw.elim (h.run pins s σ H R I) (h'.run pins s σ H R I)⟩
/-- one iterator, new -/
theorem one_hot {pins : List (Addr × Obj)} {σ : L2.St} {H : Hp} {s : Shared} {R : It → Hp → Prop} {J : It} {tn : Nat → Heap → Prop} {tk : Nat} (hc : X.calm = false) (I : Inv X pins σ H s) (o : Obj) (T : TurnW X.prog X.w X.K tg J [s.heap.objs.size] s.heap.objs.size tn) (st : tn 0 (s.heap.push o)) (q : R J H) :
    PIEB X pins σ tg R (.ref s.heap.objs.size) { s with heap := s.heap.push o, toks := tk } := by
  refine ⟨s.heap.objs.size, [s.heap.objs.size], tn, J, H, rfl, I.kept fun b ob e => Heap.get?_push_of_some _ e, .inr ⟨hc, T⟩, st, fun b hb => ?_, q⟩
  obtain rfl : b = s.heap.objs.size := by simpa using hb
  exact I.fpOk (Nat.le_refl _) (I.hok.fresh (Nat.le_refl _))
end
end PV
set_option maxHeartbeats 4000000
namespace PV
open PySem PySem.Spec PyProof.Rows L2 L2H HotX

section
variable {X : Cx} {tg : Expr}
theorem pihL {l : Expr} {tl : TE} (hl : PE X l tl) : PIB X tg l (iList X.K tl) := by
  cases hc : X.calm with
  | true => exact .ofC hc (pi_list hl)
  | false =>
    exact ⟨fun pins s σ H R I h => thn (hl.run pins s σ H _ I h) fun v s1 ⟨x, H1, J, r1, a, ex, ⟨xs, hq⟩, q⟩ => by
      subst ex
      cases r1
      obtain ⟨its, rv, p, hz⟩ := J.list hq
      exact wpAny_pyIter_list p.isList (one_hot (tk := s1.toks) hc J _ (turnL_hot a _) ⟨_, Heap.get?_push_size _ rfl, rfl, rfl⟩ q)⟩
theorem pihT {l : Expr} {tl : TE} (hl : PE X l tl) : PIB X tg l (iTup X.K tl) := by
  cases hc : X.calm with
  | true => exact .ofC hc (pi_tup hl)
  | false =>
    exact ⟨fun pins s σ H R I h => thn (hl.run pins s σ H _ I h) fun v s1 ⟨x, H1, J, r1, a, ex, ⟨xs, hq⟩, q⟩ => by
      subst ex
      cases r1
      obtain ⟨its, rv, p, hz⟩ := J.tuple hq
      exact wpAny_pyIter_tuple (show s1.heap.IsTuple a its.toArray from p) (one_hot (tk := s1.toks) hc J _ (turnT_hot a _) ⟨_, Heap.get?_push_size _ rfl, rfl, rfl⟩ q)⟩
theorem pihS {e : Expr} {te : TE} (he : PE X e te) : PIB X tg e (iStr te) := by
  cases hc : X.calm with
  | true => exact .ofC hc (pi_str he)
  | false =>
    exact ⟨fun pins s σ H R I h => thn (he.run pins s σ H _ I h) fun v s1 ⟨y, H1, J, r1, x, ex, q⟩ => by
      subst ex
      obtain ⟨t, rfl⟩ := r1
      cases ha : x.cps.all (· < 128)
      · exact wpAny_pyIter_wide ha (one_hot (tk := s1.toks) hc J _ (turnS_hot _ x t "str_iterator" (.inr rfl)) ⟨_, Heap.get?_push_size _ rfl, rfl, rfl⟩ q)
      · exact wpAny_pyIter_ascii ha (one_hot (tk := s1.toks) hc J _ (turnS_hot _ x t "str_ascii_iterator" (.inl rfl)) ⟨_, Heap.get?_push_size _ rfl, rfl, rfl⟩ q)⟩
/-- the readings of a loop and a comprehension, warm all the way -/
def tForW (X : Cx) (wi : TI) (g : TG) (tb : TS) : TS := fun D σ H => wi σ H fun J H1 => ∃ W : Nat → Nat → L2.St → Hp → Prop, (∃ m, W 0 m σ H1) ∧ ∀ i m τ F, W i m τ F → Warm X F ∧ ((J.stop i F ∧ D.nx τ F) ∨
  (J.go i F ∧ ∃ N : L2.St → Hp → Prop, (∀ σ' H', N σ' H' → ∃ m', m' < m ∧ W (i + 1) m' σ' H') ∧ ∀ x H', J.yld i F x H' → g x τ H' fun σ2 H2 => tb { D with nx := N, ct := N, bk := D.nx } σ2 H2))
def tLcW (X : Cx) (wi : TI) (g : TG) (tt : TT) (te : TE) (vs : List Nat) : TE := fun σ H Q => wi σ H fun J H1 => ∀ D, H1 D = none → ∃ W : Nat → Nat → Hp → Prop, (∃ m, W 0 m (upd H1 D (.lst []))) ∧ ∀ i m F, W i m F → Warm X F ∧ ((J.stop i F ∧ Q (.ref D) F) ∨
  (J.go i F ∧ ∃ Nx : Hp → Prop, (∀ H', Nx H' → ∃ m', m' < m ∧ W (i + 1) m' H') ∧ ∀ x H', J.yld i F x H' → g x (wipe σ vs) H' fun σ2 H2 => wipe σ2 vs = wipe σ vs ∧ tt σ2 H2 fun b H3 =>
    if b = true then te σ2 H3 fun y H4 => ∃ acc, H4 D = some (.lst acc) ∧ acc.length < sizeLine ∧ Nx (upd H4 D (.lst (acc ++ [y]))) else Nx H3))
/-- for, calm or hot -/
theorem for_b {iter : Expr} {body : List Stmt} {wi : TI} {g : TG} {tb : TS} {pos : Pos} (hp : PassesOwn (model X.prog X.w) X.A X.env X.xe) (hi : PIB X tg iter wi) (hg : PG X tg g) (hb : PSs X body tb) (hs : ∀ x, foldedSetIterable iter X.env x = pure x) :
    PS X (.For tg iter body [] pos) (tForW X wi g tb) := by
  refine ⟨fun pins s σ H D I h => wpAny_For (thn (hi.run pins s σ H _ I h) fun v s1 h1 => thn h1 fun itv s2 ⟨it, fp, tn, J, H2, ei, I2, T, st2, f2, W, ⟨m0, w0⟩, turn⟩ => ?_) hs⟩
  subst ei
  have still : ∀ {G : Hp}, (∀ b ∈ fp, G b = none) → ∀ b ∈ fp, FpOk X pins G b := fun z b hb => ⟨z b hb, (f2 b hb).2⟩
  refine codeAny_forLoop_any (fun n t => ∃ i σ' G, Inv X pins σ' G t ∧ tn i t.heap ∧ (∀ b ∈ fp, G b = none) ∧ W i n σ' G) ?_ m0 ⟨0, σ, H2, I2, st2, fun b hb => (f2 b hb).1, w0⟩
  rintro n t ⟨i, σ3, G3, I3, st3, z3, w3⟩
  obtain ⟨wm, turn1⟩ := turn i n σ3 G3 w3
  rcases turn1 with ⟨stop, qn⟩ | ⟨go, N, hN, step⟩
  · refine wpAny_passesOwn hp (thn (T.done (Like.refl X) X.xe wm I3 (still z3) st3 stop) fun r t4 ⟨hr, I4⟩ => ?_)
    subst hr
    exact wpAny_execs_nil ⟨σ3, G3, I4, qn⟩
  · refine wpAny_passesOwn hp (thn (T.item (Like.refl X) X.xe I3 (still z3) st3 go) fun r t4 ⟨u, hr, h4⟩ => ?_)
    subst hr
    refine wpAny_passesOwn hp (thn h4 fun _ t5 ⟨x, G5, I5, r5, y5, st5, z5⟩ => ?_)
    refine wpAny_passesOwn hp (thn (hg.run _ t5 σ3 G5 x u _ (I5.pinned (still z5) (T.obj _ _ st5)) r5 (step x G5 y5)) fun _ t6 ⟨σ6, G6, I6, q6⟩ => ?_)
    refine wpAny_passesOwn hp (thn (hb.run _ t6 σ6 G6 _ I6 q6) fun f t7 q7 => ?_)
    have next : ∀ {σ7 : L2.St} {G7 : Hp}, Inv X (pins ++ pinsAt fp t5.heap) σ7 G7 t7 → N σ7 G7 → ∃ m, m < n ∧ ∃ i σ' G, Inv X pins σ' G t7 ∧ tn i t7.heap ∧ (∀ b ∈ fp, G b = none) ∧ W i m σ' G := fun {σ7 G7} I7 n7 => by
      obtain ⟨m', hm, w7⟩ := hN σ7 G7 n7
      have pin7 : ∀ b ∈ fp, ∀ o, t5.heap.get? b = some o → t7.heap.get? b = some o ∧ G7 b = none := fun b hb o e =>
        let z := I7.pin (b, o) (List.mem_append_right _ (List.mem_append_right _ (mem_pinsAt hb e)))
        ⟨z.1, z.2.1⟩
      refine ⟨m', hm, i + 1, σ7, G7, I7.unpinned, T.keep _ _ _ st5 fun b hb o e => (pin7 b hb o e).1, fun b hb => ?_, w7⟩
      obtain ⟨o, e, d⟩ := T.obj _ _ st5 b hb
      exact (pin7 b hb o e).2
    cases f with
    | next => obtain ⟨σ7, G7, I7, n7⟩ := q7; exact next I7 n7
    | cont => obtain ⟨σ7, G7, I7, n7⟩ := q7; exact next I7 n7
    | brk => obtain ⟨σ7, G7, I7, q7⟩ := q7; exact ⟨σ7, G7, I7.unpinned, q7⟩
    | ret v => obtain ⟨x7, σ7, G7, I7, r7, q7⟩ := q7; exact ⟨x7, σ7, G7, I7.unpinned, r7, q7⟩
/-! ### targets -/
theorem pg_tupW {es : List Expr} {k : Nat} {t : TGs} {n : Nat} {pos : Pos} (h : PGs X es t) (hn : (assignEach es X.env).length = n) (hst : (assignEach es X.env).findIdx? (·.1) = none) : PG X (.Tuple es k pos) (fun v σ H Q => Warm X H ∧ gTup X.K n t v σ H Q) := by
  refine ⟨fun pins s σ H v u Q I r ⟨wm, hw0⟩ => ?_⟩
  rcases wm with c | c
  · exact (pg_tup c h hn hst).run pins s σ H v u Q I r hw0
  · obtain ⟨a, xs, ea, hq, hl, hw⟩ := hw0
    subst ea
    cases r
    obtain ⟨its, rv, ht, hz⟩ := I.tuple hq
    obtain ⟨x1, hot, _⟩ := hot_at c I
    have hn2 : (assignEach es X.env).length = its.toArray.size := by rw [hn, ← hl, rv.length]; simp
    rw [PyProof.Rows.assign_Tuple]
    refine wpAny_bind (wpAny_standAt ?_)
    unfold unpack
    rw [hn2, hst]
    refine wpAny_bind (wpAny_holding (unpT_hot hot ht fun g hx => ?_))
    exact h.run pins _ σ H xs _ Q (I.kept (t' := s.toks) fun b o e => hx b o (Nat.ne_of_lt (Heap.lt_size e)) e) (by simpa using rv) hw
theorem pg_unlW {es : List Expr} {k : Nat} {t : TGs} {n : Nat} {pos : Pos} (h : PGs X es t) (hn : (assignEach es X.env).length = n) (hst : (assignEach es X.env).findIdx? (·.1) = none) : PG X (.Tuple es k pos) (fun v σ H Q => Warm X H ∧ gUnl X.K n t v σ H Q) := by
  refine ⟨fun pins s σ H v u Q I r ⟨wm, hw0⟩ => ?_⟩
  rcases wm with c | c
  · exact (pg_unl c h hn hst).run pins s σ H v u Q I r hw0
  · obtain ⟨a, xs, ea, hq, hl, hw⟩ := hw0
    subst ea
    cases r
    obtain ⟨its, rv, pl, hz⟩ := I.list hq
    obtain ⟨x1, hot, _⟩ := hot_at c I
    have hn2 : (assignEach es X.env).length = its.toArray.size := by rw [hn, ← hl, rv.length]; simp
    rw [PyProof.Rows.assign_Tuple]
    refine wpAny_bind (wpAny_standAt ?_)
    unfold unpack
    rw [hn2, hst]
    refine wpAny_bind (wpAny_holding (unpL_hot hot pl.isList fun g hx => ?_))
    exact h.run pins _ σ H xs _ Q (I.kept (t' := s.toks) fun b o e => hx b o (Nat.ne_of_lt (Heap.lt_size e)) e) (by simpa using rv) hw
end

/-! ### a list comprehension's block -/
section
variable {X : Cx} {pins : List (Addr × Obj)} {σ : L2.St} {H : Hp} {s : Shared}
theorem like_blk {s0 : Shared} {H0 : Hp} {scope : Scope} {cenv : PySem.Env} {fp : List Addr} : Like X (X.blk s0 H0 scope cenv fp) := ⟨rfl, rfl, rfl, rfl, rfl⟩
theorem lc_b {Q : VK} {elt tg iter : Expr} {ifs : List Expr} {scope : Scope} {own : List (Str × Nat)} {pos pos' : Pos} {wi : TI} {g : TG} {tt : TT} {te : TE} {use : Option (Value → Sem Unit)} {Qf : Value → Shared → Prop}
    (hN : X.N.Nodup) (I : Inv X pins σ H s) (hi : PIB X tg iter wi) (ok : BlkOk X.N X.env.scope scope own)
    (hg : ∀ (s : Shared) (H : Hp) (C : Addr) (cl : List (Str × Addr)) (fp : List Addr), PG (X.blk s H scope (compEnvC scope cl C X.env) fp) tg g) (ht : ∀ (s : Shared) (H : Hp) (C : Addr) (cl : List (Str × Addr)) (fp : List Addr), PTs (X.blk s H scope (compEnvC scope cl C X.env) fp) ifs tt)
    (he : ∀ (s : Shared) (H : Hp) (C : Addr) (cl : List (Str × Addr)) (fp : List Addr), PE (X.blk s H scope (compEnvC scope cl C X.env) fp) elt te) (hs : ∀ x, foldedSetIterable iter X.env x = pure x)
    (h : tLcW X wi g tt te (own.map (·.2)) σ H Q)
    (hRR : ∀ D C t m G, Inv X pins σ G t → Q (.ref D) G → t.heap.Ns C m → FpOk X pins G C → compPost (model X.prog X.w) X.A X.xe use Qf (.ref D) C (.ok .next) t) :
    wpAny (model X.prog X.w) X.A (comprehension (.ListComp elt [⟨tg, iter, ifs, 0⟩] scope pos) scope X.env pos' (newList []) false (eval iter X.env) use) Qf X.xe s := by
  have hfr : ∀ y ∈ scope.names, y.2 = .free → ∃ c, X.env.cells.lookup y.1 = some c := fun y hy e => (ok.free y hy e).elim (fun k => I.ok.has _ (.inl k)) fun k => I.ok.has _ (.inr k)
  refine wpAny_comprehension_free (use := use) rfl hs (closure_ok hfr) ok.kind (fun y hy e => by rw [ok.uniq y hy, e]) (thn (hi.run pins s σ H _ I h) fun xv s1 hx => thn hx fun itv s2 ⟨it, fp, tn, J, H2, ei, I2, T, st2, f2, q⟩ => ?_)
  subst ei
  refine wpAny_newObj_type (newEnv_comp ?_) (by show 0 ≤ sizeLine; decide)
  generalize hD : s2.heap.objs.size = L
  have hL : H2 L = none := I2.hok.fresh (Nat.le_of_eq hD)
  obtain ⟨W, ⟨m0, w0⟩, turn⟩ := q L hL
  generalize hs3 : ({ s2 with heap := s2.heap.push { cls := .type "list", data := .seq ([] : List Value).toArray } } : Shared) = s3
  have e3 : s3.heap = s2.heap.push { cls := .type "list", data := .seq ([] : List Value).toArray } := by rw [← hs3]
  have I3 : Inv X pins σ (upd H2 L (.lst [])) s3 := by
    rw [← hs3]
    refine I2.laid (t' := s2.toks) (fun b o e => Heap.get?_push_of_some _ e) (Nat.le_of_eq hD) ⟨Nat.zero_le _, [], 0, .nil, ?_⟩
    rw [← hD]
    exact Heap.get?_push_size _ rfl
  have f3 : ∀ b ∈ fp, FpOk X pins (upd H2 L (.lst [])) b ∧ b < s3.heap.objs.size := fun b hb => by
    obtain ⟨o, e, _⟩ := T.obj _ _ st2 b hb
    have lt := Heap.lt_size e
    refine ⟨⟨?_, (f2 b hb).2⟩, by rw [e3, Heap.size_push]; exact Nat.lt_succ_of_lt lt⟩
    rw [upd_ne (by rw [← hD]; exact Nat.ne_of_lt lt)]
    exact (f2 b hb).1
  have st3 : tn 0 s3.heap := T.keep _ _ _ st2 fun b _ o e => by rw [e3]; exact Heap.get?_push_of_some _ e
  have B4 := block_start I3 ok hN f3
  have pg := hg s3 (upd H2 L (.lst [])) s3.heap.objs.size (cellsFrom (s3.heap.objs.size + 1) scope.names (cloFrom X.env.cells scope.names [])) fp
  have pt := ht s3 (upd H2 L (.lst [])) s3.heap.objs.size (cellsFrom (s3.heap.objs.size + 1) scope.names (cloFrom X.env.cells scope.names [])) fp
  have pe := he s3 (upd H2 L (.lst [])) s3.heap.objs.size (cellsFrom (s3.heap.objs.size + 1) scope.names (cloFrom X.env.cells scope.names [])) fp
  show codeAny _ _ (.compStart (.ListComp elt [⟨tg, iter, ifs, 0⟩] scope pos) 0 (.ref it) (.ref L) (compEnvC scope (cellsFrom (s3.heap.objs.size + 1) scope.names (cloFrom X.env.cells scope.names [])) s3.heap.objs.size X.env)) (compPost (model X.prog X.w) X.A X.xe use Qf (.ref L) s3.heap.objs.size) { s3 with heap := pushCells (s3.heap.push { cls := .type "dict", data := .dict #[] }) scope.names }
  have z0 : ∀ b ∈ fp, (upd H2 L (.lst [])) b = none := fun b hb => (f3 b hb).1.1
  generalize hce : compEnvC scope (cellsFrom (s3.heap.objs.size + 1) scope.names (cloFrom X.env.cells scope.names [])) s3.heap.objs.size X.env = ce at B4 pg pt pe ⊢
  have cL : ce.locals = s3.heap.objs.size := by subst hce; rfl
  generalize hH3 : upd H2 L (.lst []) = H3 at I3 B4 pg pt pe w0 z0 f3
  generalize hs4 : ({ s3 with heap := pushCells (s3.heap.push { cls := .type "dict", data := .dict #[] }) scope.names } : Shared) = s4 at B4 ⊢
  have st4 : tn 0 s4.heap := T.keep _ _ _ st3 fun b _ o e => by rw [← hs4]; exact pushCells_keeps _ _ _ _ (Heap.get?_push_of_some _ e)
  have I4 := B4
  have still : ∀ {σ' : L2.St} {G : Hp} {t : Shared}, Inv (X.blk s3 H3 scope ce fp) [] σ' G t → (∀ b ∈ fp, G b = none) → ∀ b ∈ fp, FpOk (X.blk s3 H3 scope ce fp) [] G b := fun {σ' G t} I' z b hb =>
    ⟨z b hb, (I'.ok.exf b hb).1, I'.ok.exfs b hb, .inl hb, fun x c e => (I'.ok.exf b hb).2 x c e, fun p hp => (f3 b hb).1.2.2.2.2.2 p (List.mem_append_left _ (by simpa using hp))⟩
  suffices loop : codeAny (model X.prog X.w) X.A (.compLoop (.ListComp elt [⟨tg, iter, ifs, 0⟩] scope pos) 0 (.ref it) (.ref L) ce) (compPost (model X.prog X.w) X.A X.xe use Qf (.ref L) s3.heap.objs.size) s4 from codeAny_compStart_list loop (T.self st4 loop)
  refine compLoop_any (fun n t => ∃ i G, Inv (X.blk s3 H3 scope ce fp) [] (wipe σ (own.map (·.2))) G t ∧ tn i t.heap ∧ (∀ b ∈ fp, G b = none) ∧ W i n G) ?_ m0 ⟨0, H3, I4, st4, z0, w0⟩
  rintro n s5 ⟨i, G5, I5, st5, z5, w5⟩
  obtain ⟨wm, turn1⟩ := turn i n G5 w5
  rcases turn1 with ⟨stop, qq⟩ | ⟨go, Nx, hNx, step⟩
  · refine thnF (T.done (like_blk (s0 := s3) (H0 := H3) (scope := scope) (cenv := ce) (fp := fp)) (fun _ _ => False) wm I5 (still I5 z5) st5 stop) fun r s6 ⟨hr, I6⟩ => ?_
    subst hr
    have nC : G5 s3.heap.objs.size = none := cL ▸ (show G5 ce.locals = none from I6.free)
    obtain ⟨m, hn, _⟩ := I6.loc
    exact hRR L s3.heap.objs.size s6 m G5 (I3.call' (ch := fp) I6.os I6.base I6.hok I6.bare fun b hb => ⟨(f3 b hb).1.2.2.2.1, (f3 b hb).1.2.1, (f3 b hb).1.2.2.2.2.1, (f3 b hb).1.2.2.2.2.2⟩) qq (cL ▸ (show s6.heap.Ns ce.locals m from hn)) (I3.fpOk (Nat.le_refl _) nC)
  · refine thnF (T.item (like_blk (s0 := s3) (H0 := H3) (scope := scope) (cenv := ce) (fp := fp)) (fun _ _ => False) I5 (still I5 z5) st5 go) fun r s6 ⟨u, hr, h6⟩ => ?_
    subst hr
    refine thnF h6 fun _ s7 ⟨x, G7, I7, r7, y7, st7, z7⟩ => ?_
    refine thnF (pg.run _ s7 _ G7 x u _ (I7.pinned (still I7 z7) (T.obj _ _ st7)) r7 (step x G7 y7)) fun _ s8 ⟨σ8, G8, I8, hw8, q8⟩ => ?_
    refine thnF (pt.run _ s8 σ8 G8 _ I8 q8) fun b s9 ⟨G9, I9, q9⟩ => ?_
    have fin : ∀ {t : Shared} {G : Hp}, Inv (X.blk s3 H3 scope ce fp) ([] ++ pinsAt fp s7.heap) σ8 G t → Nx G → ∃ m, m < n ∧ ∃ i G, Inv (X.blk s3 H3 scope ce fp) [] (wipe σ (own.map (·.2))) G t ∧ tn i t.heap ∧ (∀ b ∈ fp, G b = none) ∧ W i m G := fun {t G} I' nx => by
      obtain ⟨m', hm, w'⟩ := hNx G nx
      have pin' : ∀ b ∈ fp, ∀ o, s7.heap.get? b = some o → t.heap.get? b = some o ∧ G b = none := fun b hb o e =>
        let z := I'.pin (b, o) (List.mem_append_right _ (List.mem_append_right _ (mem_pinsAt hb e)))
        ⟨z.1, z.2.1⟩
      refine ⟨m', hm, i + 1, G, (I'.unpinned (pins := [])).weak (by rw [← hw8, wipe_length]) (fun j v e => (wipe_some (hw8 ▸ e)).1), T.keep _ _ _ st7 fun b hb o e => (pin' b hb o e).1, fun b hb => ?_, w'⟩
      obtain ⟨o, e, _⟩ := T.obj _ _ st7 b hb
      exact (pin' b hb o e).2
    cases b with
    | false =>
      simp only [Bool.false_eq_true, if_false] at q9 ⊢
      exact fin I9 q9
    | true =>
      simp only [if_true] at q9 ⊢
      refine thnF (pe.run _ s9 σ8 G9 _ I9 q9) fun z s10 ⟨yv, G10, I10, r10, acc, d10, l10, nx⟩ => ?_
      exact app_ok (X := X.blk s3 H3 scope ce fp) I10 d10 l10 r10 fun s11 I11 => fin I11 nx
variable {elt tg iter : Expr} {ifs : List Expr} {scope : Scope} {own : List (Str × Nat)} {pos spos : Pos} {wi : TI} {g : TG} {tt : TT} {te : TE}
theorem lc_val (hN : X.N.Nodup) (hi : PIB X tg iter wi) (ok : BlkOk X.N X.env.scope scope own)
    (hg : ∀ (s : Shared) (H : Hp) (C : Addr) (cl : List (Str × Addr)) (fp : List Addr), PG (X.blk s H scope (compEnvC scope cl C X.env) fp) tg g) (ht : ∀ (s : Shared) (H : Hp) (C : Addr) (cl : List (Str × Addr)) (fp : List Addr), PTs (X.blk s H scope (compEnvC scope cl C X.env) fp) ifs tt)
    (he : ∀ (s : Shared) (H : Hp) (C : Addr) (cl : List (Str × Addr)) (fp : List Addr), PE (X.blk s H scope (compEnvC scope cl C X.env) fp) elt te) (hs : ∀ x, foldedSetIterable iter X.env x = pure x) :
    PE X (.ListComp elt [⟨tg, iter, ifs, 0⟩] scope pos) (tLcW X wi g tt te (own.map (·.2))) := by
  refine ⟨fun pins s σ H Q I h => ?_⟩
  rw [eval_ListComp]
  refine lc_b hN I hi ok hg ht he hs h fun D C t m G J q hn f => ⟨m, hn, fun g' sb => ?_⟩
  obtain ⟨f0, f1, f2, f3, f4, f5⟩ := f
  exact ⟨.ref D, G, J.turned (t' := t.toks) (fun b o nb e => (sb.2 b nb).trans e) f0 f1 f3 f4 f5, rfl, q⟩
theorem lc_set {i : Nat} {y : Str} {py : Pos} (hN : X.N.Nodup) (hy : X.N[i]? = some y) (hyl : X.env.scope.names.lookup y = some .local) (hsw : swapsWith (.ListComp elt [⟨tg, iter, ifs, 0⟩] scope pos) (some (.Name y py)) spos.line X.env = pure true) (hi : PIB X tg iter wi) (ok : BlkOk X.N X.env.scope scope own)
    (hg : ∀ (s : Shared) (H : Hp) (C : Addr) (cl : List (Str × Addr)) (fp : List Addr), PG (X.blk s H scope (compEnvC scope cl C X.env) fp) tg g) (ht : ∀ (s : Shared) (H : Hp) (C : Addr) (cl : List (Str × Addr)) (fp : List Addr), PTs (X.blk s H scope (compEnvC scope cl C X.env) fp) ifs tt)
    (he : ∀ (s : Shared) (H : Hp) (C : Addr) (cl : List (Str × Addr)) (fp : List Addr), PE (X.blk s H scope (compEnvC scope cl C X.env) fp) elt te) (hs : ∀ x, foldedSetIterable iter X.env x = pure x) :
    PS X (.Assign [.Name y py] (.ListComp elt [⟨tg, iter, ifs, 0⟩] scope pos) spos) (tAsg (tLcW X wi g tt te (own.map (·.2))) (gName i)) := by
  refine ⟨fun pins s σ H D I h => ?_⟩
  rw [exec_Assign_Name_used _ _ _ _ hsw]
  refine wpAny_bind (wpAny_standAt (wpAny_bind ?_))
  show wpAny _ X.A (comprehension (.ListComp elt [⟨tg, iter, ifs, 0⟩] scope pos) scope X.env (firstIterPos [⟨tg, iter, ifs, 0⟩] pos) (newList []) false (eval iter X.env) (some (assign (.Name y py) X.env)) >>= fun _ => pure ()) _ _ s
  have h' : tLcW X wi g tt te (own.map (·.2)) σ H (fun x H1 => gName i x σ H1 D.nx) := h
  refine wpAny_bind (thn (lc_b (Qf := fun _ t => SP X pins D .next t) hN I hi ok hg ht he hs h' fun L C t m G J q hn f => ?_) fun _ t hq => wpAny_pure (wpAny_pure hq))
  show wpAny _ _ (assign (.Name y py) X.env (.ref L)) _ _ _
  refine wpAny_assign_Name (store_ok2 (v := V.ref L) J hN hy (.inl hyl) rfl (fun s2 I2 ⟨a, sb, ha⟩ => ?_) (.inr hyl))
  obtain ⟨f0, f1, f2, f3, f4, f5⟩ := f
  have nCa : C ≠ a := ha.elim (fun z => z ▸ f1) fun z e => f4 y a z e.symm
  exact ⟨m, hn.sameBut sb nCa, fun g3 sb3 => ⟨_, G, I2.turned (t' := s2.toks) (fun b o nb e => (sb3.2 b nb).trans e) f0 f1 f3 f4 f5, q⟩⟩
end
end PV
set_option maxHeartbeats 4000000
namespace PV
open PySem PySem.Spec PyProof.Rows L2 L2H HotX

/-! ### defs called while an exception is handled, which stands tracked -/
/-- what such a def promises: a is the exception's address -/
structure FnT (P : Program) (w : World) (K : PySem.W.Frag) (mg : Str → Option Value) (base : Heap) (CX : CXT) (k : Nat) (f : Addr) (fd : FuncData) (ps : List Str) (sp : Addr → Sp) : Prop where
  len : ∀ a vs H Q E, sp a vs H Q E → vs.length = ps.length
  run : ∀ (A : Around) (fr : List PySem.Env) (s : Shared) (H : Hp) (ar : Args) (us : List Value) (vs : List V) (Q : VK) (E : XK) (a : Addr), RoomH k A → A.handled = some (.ref a) → (∃ C dx, H a = some (xO C a dx)) → Env0 P w K mg base A fr s H →
    BindsTo s fd ar (ps.zip us) → Vals vs us → sp a vs H Q E → codeAny (model P w) A (.call (.ref f) ar) (CR CX fr P w H s Q E) s
/-- the context of such a def's body -/
def cxT (CX : CXT) (P : Program) (w : World) (K : PySem.W.Frag) (mg : Str → Option Value) (base : Heap) (N : List Str) (qual : Str) (scope : Scope) (f : Addr) (cd : Value) (A : Around) (fr : List PySem.Env) (s : Shared) (H : Hp) (E : XK) : Cx :=
  { cxOf CX P w K mg base N qual scope f cd A fr s H E with calm := false }
theorem env0_mark {P : Program} {w : World} {K : PySem.W.Frag} {mg : Str → Option Value} {base : Heap} {A : Around} {fr : List PySem.Env} {s : Shared} {H : Hp} (e : Env0 P w K mg base A fr s H) : Env0 P w K mg base { A with handled := none } fr s H :=
  ⟨e.frames, e.mod, e.bs, e.bsz, e.funs, e.frf, e.hok, e.bare⟩
/-- the state at the body's beginning: as in a calm one -/
theorem inv_hot {CX : CXT} {P : Program} {w : World} {K : PySem.W.Frag} {mg : Str → Option Value} {base : Heap} {N : List Str} {qual : Str} {scope : Scope} {f : Addr} {cd : Value} {A : Around} {fr : List PySem.Env} {s s1 : Shared} {H : Hp} {E : XK} {σ : L2.St}
    (e : Env0 P w K mg base A fr s H) (I : Inv (cxOf CX P w K mg base N qual scope f cd { A with handled := none } fr s H E) [] σ H s1) : Inv (cxT CX P w K mg base N qual scope f cd A fr s H E) [] σ H s1 :=
  ⟨⟨I.ok.mod, I.ok.kind, I.ok.glob, I.ok.blt, I.ok.above, I.ok.inj, I.ok.has, I.ok.cab, fun z => Bool.noConfusion (show false = true from z), Around.frames_deeper e.frames, I.ok.stk, I.ok.exf, I.ok.bs, I.ok.bsz, I.ok.noex, I.ok.exfs, I.ok.funs, I.ok.frf⟩,
    I.os, I.bare, I.base, I.loc, I.cell, I.free, I.freeC, I.pin, I.hok, I.len⟩
theorem fn_hot {CX : CXT} {P : Program} {w : World} {K : PySem.W.Frag} {mg : Str → Option Value} {base : Heap} {k : Nat} {f : Addr} {nm qual : Str} {prm : Arguments} {body : List Stmt} {scope : Scope} {dV kV doc pm cdv ct oc : Value} {an od : Option Addr}
    {osl : Array (Option Value)} {N ps : List Str} {sp : Addr → Sp} (lk : K.lookup f = some ⟨oc, od, .func (PySem.W.fnOf nm qual prm body scope dV kV doc pm an cdv ct), osl⟩) (hcd : PySem.W.codeIn K cdv qual = true) (S : FnScope N ps scope)
    (len : ∀ a vs H Q E, sp a vs H Q E → vs.length = ps.length)
    (hb : ∀ (A : Around) (fr : List PySem.Env) (s : Shared) (H : Hp) (vs : List V) (Q : VK) (E : XK) (a : Addr), A.handled = some (.ref a) → (∃ C dx, H a = some (xO C a dx)) → RoomH k (A.deeper (envOfC qual scope s.heap.objs.size f cdv)) → sp a vs H Q E →
      ∃ t, PSs (cxT CX P w K mg base N qual scope f cdv A fr s H E) body t ∧ t { nx := fun _ H' => Q .non H', rt := Q } (L2.start N vs) H) :
    FnT P w K mg base CX (k + 1) f (PySem.W.fnOf nm qual prm body scope dV kV doc pm an cdv ct) ps sp := by
  refine ⟨len, fun A fr s H ar us vs Q E a rm hd hx en bd rv hs => ?_⟩
  have hl := len _ _ _ _ _ hs
  have kin : K.In s.heap := PySem.W.Frag.In.keeps en.mod.kin fun b o e => (en.bs b o e).1
  have nl : s.heap.NoLimit := en.mod.nolimit.keeps fun b o e => (en.bs b o e).1
  have kd : ∀ y ∈ ps.zip us, scope.names.lookup y.1 = some .local ∨ (scope.names.lookup y.1 = some .cell ∧ ((cellsFrom (s.heap.objs.size + 1) scope.names []).lookup y.1).isSome = true) := fun y hy => (S.par y.1 (List.of_mem_zip hy).1).imp id fun q => ⟨q, PySem.W.cellsFrom_some _ _ _ (.inl q)⟩
  refine codeAny_call_function rm.depth (kin _ _ lk) rfl S.co S.gen rfl (PySem.W.codeRec_of kin hcd) (bd _ _ _ _ (wpAny_newFunctionEnv_cells S.kind kd fun env he s1 x => ?_))
  subst he
  refine ⟨nl.keeps x.toInCall.keep, codeAny_func ?_⟩
  obtain ⟨t, ht, hq⟩ := hb A fr s H vs Q E a hd hx (rm.deeper _) hs
  have I := inv_hot (E := E) (CX := CX) en (inv_start (A := { A with handled := none }) S rfl (env0_mark en) hl rv x)
  refine wpAny_mono (ht.run [] s1 (L2.start N vs) H _ I hq) (fun fl t' h => ?_) fun _ _ h => h
  cases fl with
  | ret u =>
    obtain ⟨v, σ', H', J, rv', q⟩ := h
    exact ⟨v, H', J.os, J.bare, J.base, J.hok, rv', q⟩
  | next =>
    obtain ⟨σ', H', J, q⟩ := h
    exact ⟨.non, H', J.os, J.bare, J.base, J.hok, rfl, q⟩
  | brk =>
    obtain ⟨_, _, _, q⟩ := h
    exact q.elim
  | cont =>
    obtain ⟨_, _, _, q⟩ := h
    exact q.elim
section
variable {X : Cx} {CX : CXT} {k : Nat} {f : Addr} {fd : FuncData} {ps : List Str} {sp : Addr → Sp} {x : Str} {q pos : Pos} {e : Expr} {es : List Expr} {t : TA}
/-- f(e, ..) there, which lets no exception out -/
theorem pe_callT (F : FnT X.prog X.w X.K X.mg X.base CX k f fd ps sp) (hr : RoomH k X.A) {a : Addr} (hd : X.A.handled = some (.ref a)) (hg : Gl X x) (hm : X.mg x = some (.ref f)) (hk : PySem.W.keepIn X.K (.ref f) = true) (hb : Binds X.K fd ps []) (hx : Passes CX X E0)
    (ha : PA X (e :: es) t) (hdb : (x == ("__debug__" : Str)) = false) (he : starEach (e :: es) X.env = (false, eval e X.env) :: starEach es X.env) (hpl : (backTo pos (starEach es X.env)).any (·.1) = false) :
    PE X (.Call (.Name x q) (e :: es) [] pos) (fun σ H Q => t σ H fun vs H1 => (∃ C dx, H1 a = some (xO C a dx)) ∧ sp a vs H1 Q E0) := by
  refine ⟨fun pins s σ H Q I h => wpAny_Call_Name_kw (ld_glob I hg hm ?_ hdb)⟩
  refine PySem.W.callWith_K (h₀ := X.base) I.ok.mod.kin hk (thn (ha.run pos pins s σ H _ I h) fun us s1 ⟨vs, H1, I1, r, hot, w⟩ => ⟨I1.kIn, ?_⟩) he hpl
  have hl : us.length = ps.length := r.length.symm.trans (F.len _ _ _ _ _ w)
  have b := hb s1 us I1.kIn (by rw [List.append_nil]; exact hl)
  rw [List.append_nil] at b
  refine wpAny_call (codeAny_mono (F.run X.A X.stack s1 H1 ⟨us, []⟩ us vs Q E0 a hr hd hot I1.env0 b r w) fun r s' hq => ?_)
  cases r with
  | error z => exact hx pins σ H1 s1 z s' I1 hq
  | ok fl => cases fl <;> first | exact I1.after hq | exact False.elim hq
end
end PV
set_option maxHeartbeats 4000000
namespace PV
open PySem PySem.Spec PyProof.Rows L2 L2H HotX

/-! ### try: what is caught stands tracked in the suite -/
def setA (io : Option Nat) (a : Addr) (σ : L2.St) : L2.St := match io with
  | some i => σ.set i (some (.ref a))
  | none => σ
def setZ (io : Option Nat) (σ : L2.St) : L2.St := match io with
  | some i => σ.set i none
  | none => σ
/-- the end of a suite: the name goes -/
def endZ (io : Option Nat) (D : Ends) : Ends := { nx := fun σ H => D.nx (setZ io σ) H, rt := D.rt, bk := fun σ H => D.bk (setZ io σ) H, ct := fun σ H => D.ct (setZ io σ) H }
abbrev Hd : Type := Value × Option Nat × (Addr → TS)
def goT (K : PySem.W.Frag) (D : Ends) (C dx : Addr) : List Hd → L2.St → Hp → Prop
  | [], _, _ => False
  | (c, io, ts) :: r, σ, H => ∃ b, PySem.W.exmOne K (.ref C) c = some b ∧ (b = true → ∀ a, H a = none → ts a (endZ io D) (setA io a σ) (upd H a (xO C a dx))) ∧ (b = false → goT K D C dx r σ H)
/-- what the clauses wish of an exception of the body -/
def wTry (K : PySem.W.Frag) (D : Ends) (l : List Hd) : WX := fun cls d σ H => ∃ C dx, cls = .ref C ∧ d = some dx ∧ goT K D C dx l σ H
def nameOk (X : Cx) : Option Str → Option Nat → Prop
  | none, none => True
  | some n, some i => X.N[i]? = some n ∧ X.env.kindOf n = some .local
  | _, _ => False
inductive HdsT (X : Cx) : List ExceptHandler → List Hd → Prop
  | nil : HdsT X [] []
  | cons {x : Str} {c : Value} {as : Option Str} {io : Option Nat} {ts : Addr → TS} {b0 : Stmt} {su : List Stmt} {p1 p2 : Pos} {hs : List ExceptHandler} {l : List Hd} (hc : Names X x c) (hn : nameOk X as io)
      (hu : ∀ (a : Addr) (pn : List (Addr × Obj)), PSs (X.suite a pn) (b0 :: su) (ts a)) (r : HdsT X hs l) : HdsT X (.ExceptHandler (some (.Name x p1)) as (b0 :: su) p2 :: hs) ((c, io, ts) :: l)
section
variable {X : Cx} {pins : List (Addr × Obj)} {σ : L2.St} {H : Hp} {s sI s' : Shared} {B : Heap}
theorem to_suite (a : Addr) (I : Inv X pins σ H s) : Inv (X.suite a (X.pn ++ pins)) [] σ H s :=
  ⟨I.ok.suite a _, I.os, I.bare, I.base, I.loc, I.cell, I.free, I.freeC, fun p hp => I.pin p (by rw [List.append_nil] at hp; exact hp), I.hok, I.len⟩
theorem of_suite {a : Addr} {q : List (Addr × Obj)} (ok : X.Ok) (I : Inv (X.suite a (X.pn ++ pins)) q σ H s) : Inv X pins σ H s :=
  ⟨ok, I.os, I.bare, I.base, I.loc, I.cell, I.free, I.freeC, fun p hp => I.pin p (List.mem_append_left _ hp), I.hok, I.len⟩
/-- the caught exception, tracked from here on -/
theorem land_x {a C dx : Addr} {oe : Obj} {vs : Array Value} (I : Inv X pins σ H sI) (nb : ∀ b o, sI.heap.get? b = some o → b ∉ frs X.stack → B.get? b = some o) (st : B.StaysIn s'.heap) (up : sI.heap.UpToSlots s'.heap) (os : s'.os = sI.os) (ag : AllBare s'.gens)
    (na : H a = none) (hB : B.get? a = none) (nf : a ∉ frs X.stack) (he : s'.heap.get? a = some oe) (hz : L2N.Zn (.ref C) (some dx) oe) (hd : oe.data = .fields vs) : Inv X pins σ (upd H a (xO C a dx)) s' := by
  have nI : ∀ {b : Addr} {o : Obj}, sI.heap.get? b = some o → b ≠ a := fun {b o} e z => by
    subst z
    rw [nb _ _ e nf] at hB; cases hB
  have nH : ∀ {b : Addr} {u : HO}, H b = some u → b ≠ a := fun {b u} e z => by rw [z, na] at e; cases e
  have fr : ∀ b ∈ frs X.stack, ∀ o, sI.heap.get? b = some o → ∃ sl, s'.heap.get? b = some { o with slots := sl } := fun b hb o e => by
    obtain ⟨_, o', e', hnf⟩ := I.stack.mem hb
    rw [e] at e'
    cases e'
    exact up b o e hnf
  have un : Un (frs X.stack) [] H (upd H a (xO C a dx)) sI.heap s'.heap := {
    keep := fun b o e _ hb _ => st b o (nb b o e hb)
    slot := fun b o e _ hb _ => fr b hb o e
    free := fun b o e n _ => by rw [upd_ne (nI e)]; exact n
    there := fun b o e _ => by
      by_cases hb : b ∈ frs X.stack
      · obtain ⟨sl, q⟩ := fr b hb o e
        exact ⟨_, q⟩
      · exact ⟨o, st b o (nb b o e hb)⟩
    tups := fun b xs e => by rw [upd_ne (nH e)]; exact e
    frzs := fun b o xs e => by rw [upd_ne (nH e)]; exact e
    tbls := fun b ps e => ⟨#[], by rw [upd_ne (nH e), e]; simp⟩ }
  have hok : HOk X.prog X.w (upd H a (xO C a dx)) s'.heap := fun b u e => by
    by_cases z : b = a
    · subst z
      rw [upd_same] at e
      cases e
      exact ⟨⟨oe, vs, he, hz.1, hz.2.1, hd, hz.2.2 vs hd⟩, ⟨oe, he⟩, fun h1 h2 ⟨o, ws, e1, e2⟩ k => ⟨o, ws, k _ e1, e2⟩⟩
    · rw [upd_ne z] at e
      exact ((I.inGround nb).kept st b u e).stay (fun _ _ _ q => q) (fun c q => by rw [upd_ne (nH q)]; exact q) fun c xs q => by rw [upd_ne (nH q)]; exact q
  exact I.call' (ch := []) os un hok ag fun _ z => nomatch z
end
section
variable {X : Cx} {body orelse : List Stmt} {h0 : ExceptHandler} {hs : List ExceptHandler} {l : List Hd} {pos : Pos} {tb : WX → TS} {u : TS}
/-- the caught exception meets the clauses -/
theorem meets {pins : List (Addr × Obj)} {σ : L2.St} {H : Hp} {sI s3 : Shared} {B : Heap} {a C dx : Addr} {D : Ends} (hN : X.N.Nodup) (hst : X.stack = X.env :: X.outer) (ok : X.Ok) (I : Inv X pins σ H sI) (nb : ∀ b o, sI.heap.get? b = some o → b ∉ frs X.stack → B.get? b = some o)
    (up : sI.heap.UpToSlots s3.heap) (na : H a = none) (os : s3.os = sI.os) (ag : AllBare s3.gens) (fl : HandSPX.FlyingZ B (X.env :: X.outer) a (L2N.Zn (.ref C) (some dx)) s3.heap) :
    ∀ {hs : List ExceptHandler} {l : List Hd}, HdsT X hs l → goT X.K D C dx l σ H → wpAny (model X.prog X.w) X.A (handleBy (.ref a) X.env hs) (SP X pins D) X.xe s3 := by
  have notFr : ∀ {g : Heap} {o : Obj} {vs : Array Value}, g.FunFrames B (X.env :: X.outer) → g.get? a = some o → o.data = .fields vs → a ∉ frs X.stack := fun {g o vs} ff e dd hm => by
    rw [hst] at hm
    obtain ⟨_, o', e', hnf⟩ := ff.mem hm
    rw [e] at e'
    cases e'
    exact hnf _ dd
  obtain ⟨o3, v3, e3, z3, d3⟩ := fl.there
  have J3 := I.landed nb fl.1 up os ag
  intro hs l hk
  induction hk with
  | nil => exact fun w => w.elim
  | @cons x c as io ts b0 su p1 p2 hs2 l2 hc hn hu r ih =>
    rintro ⟨b, hb, yes, no⟩
    refine wpAny_handleBy_cons (codeAny_handlers_test ?_) (by intro q; cases q)
    have look := PySem.W.exm_one (M := model X.prog X.w) J3.kIn (fun A Q E t k q => wpAny_typeOf_ref (k _ _ e3) (by rw [z3.1]; exact q)) hb
    have S3 := to_suite a J3
    have test : ∀ {Q : Value → Shared → Prop} {E : Value → Shared → Prop}, Q c s3 → wpAny (model X.prog X.w) (X.A.mark (some (.ref a))) (eval (.Name x p1) X.env) Q E s3 := fun {Q E} q => by
      obtain ⟨hg, hdb, hm | ⟨hm, hv, hnn⟩⟩ := hc
      · exact ld_glob (X := X.suite a (X.pn ++ pins)) S3 hg hm q hdb
      · exact ld_blt (X := X.suite a (X.pn ++ pins)) S3 hg hm hv q hnn hdb
    refine test (look.here ?_)
    cases b with
    | false => exact ih (no rfl)
    | true =>
      have y := yes rfl a na
      -- the state in the suite
      have enter : ∀ h4, HandSPX.FlyingZ B (X.env :: X.outer) a (L2N.Zn (.ref C) (some dx)) h4 → s3.heap.UpToSlots h4 → Inv (X.suite a (X.pn ++ pins)) [] σ (upd H a (xO C a dx)) { s3 with heap := h4 } := fun h4 f4 u4 => by
        obtain ⟨o4, v4, e4, z4, d4⟩ := f4.there
        exact to_suite a (land_x I nb f4.1 (up.trans u4) os ag na f4.2.1 (notFr f4.2.2.1 e4 d4) e4 z4 d4)
      cases as with
      | none =>
        cases io with
        | some i => exact hn.elim
        | none =>
          refine codeAny_handlers_suite (HandSPX.lands_againZ fl fun h4 f4 u4 => ?_)
          refine wpAny_mono ((hu a (X.pn ++ pins)).run [] _ σ _ _ (enter h4 f4 u4) y) (fun f t q => ?_) fun _ _ z => z.elim
          cases f with
          | ret v =>
            obtain ⟨w, τ, G, J, rr, qq⟩ := q
            exact ⟨w, τ, G, of_suite ok J, rr, qq⟩
          | _ =>
            obtain ⟨τ, G, J, qq⟩ := q
            exact ⟨τ, G, of_suite ok J, qq⟩
      | some n =>
        cases io with
        | none => exact hn.elim
        | some i =>
          obtain ⟨hi, hl⟩ := hn
          refine codeAny_handlers_suite_as (HandSPX.lands_againZ fl fun h4 f4 u4 => ?_)
          refine store_ok (X := X.suite a (X.pn ++ pins)) (v := .ref a) (enter h4 f4 u4) hN hi (.inl hl) rfl (fun s5 S5 => ?_) (.inr hl)
          refine wpAny_mono ((hu a (X.pn ++ pins)).run [] _ _ _ _ S5 y) (fun f t q => ?_) fun _ _ z => z.elim
          have bye : ∀ {τ : L2.St} {G : Hp} {Q : Shared → Prop}, Inv (X.suite a (X.pn ++ pins)) [] τ G t → (∀ t2, Inv X pins (τ.set i none) G t2 → Q t2) →
              wpAny (model X.prog X.w) X.A (do bindName X.env n .none; unbindBehindTheSuite X.env n p2) (fun _ t2 => Q t2) X.xe t := fun {τ G Q} J k => gone_ok (of_suite ok J) hN hi hl k
          cases f with
          | ret v =>
            obtain ⟨w, τ, G, J, rr, qq⟩ := q
            exact bye J fun t2 J2 => ⟨_, _, _, J2, rr, qq⟩
          | _ =>
            obtain ⟨τ, G, J, qq⟩ := q
            exact bye J fun t2 J2 => ⟨_, _, J2, qq⟩
/-- try: body, except X as n: suite, .., else: orelse -/
theorem try_all (hN : X.N.Nodup) (hst : X.stack = X.env :: X.outer) (hf : X.env.frame = some X.env.locals) (ho : PSs X orelse u)
    (hb : ∀ (W : WX) (pn : List (Addr × Obj)) (xe : Value → Shared → Prop), L2N.Takes (X.tr pn xe) W → PassesOwn (model X.prog X.w) X.A X.env xe → PSs (X.tr pn xe) body (tb W)) (hh : HdsT X (h0 :: hs) l) :
    PS X (.Try body (h0 :: hs) orelse [] pos) (fun D σ H => tb (wTry X.K D l) { D with nx := u D } σ H) := by
  refine ⟨fun pins s σ H D I h => wpAny_Try_except ?_⟩
  have ok := I.ok
  have hfr : X.A.frames = some (X.env :: X.outer) := by rw [ok.frames, hst]
  let xe : Value → Shared → Prop := fun e t => wpAny (model X.prog X.w) X.A (noteFrame e X.env) (fun _ t2 => wpAny (model X.prog X.w) X.A (setFlight e none) (fun _ t3 => wpAny (model X.prog X.w) X.A (handleBy e X.env (h0 :: hs)) (SP X pins D) X.xe t3) X.xe t2) X.xe t
  have tk : L2N.Takes (X.tr (X.pn ++ pins) xe) (wTry X.K D l) := by
    rintro e t ⟨a, B, sI, q, τ, G, cls, d, rfl, J, nb, up, sky, na, os, ag, C, dx, rfl, rfl, w⟩
    have sky' : Sky B (X.env :: X.outer) a (L2N.Zn (.ref C) (some dx)) X.env.locals t.heap := by rw [← hst]; exact sky
    show wpAny (model X.prog X.w) X.A (noteFrame (.ref a) X.env) _ _ _
    exact L2N.Sky.land L2N.Zn.steady hfr hf sky' fun h3 fl up3 => meets (s3 := { t with heap := h3 }) hN hst ok (J.ofTry ok) nb (up.trans up3) na os ag fl hh w
  refine wpAny_mono ((hb _ (X.pn ++ pins) xe tk PassesOwn.looking).run [] s σ H { D with nx := u D } (I.toTry _) h) (fun f t q => ?_) fun _ _ z => z
  cases f with
  | next =>
    obtain ⟨τ, G, J, qq⟩ := q
    exact ho.run pins t τ G D (J.ofTry ok) qq
  | ret v =>
    obtain ⟨w, τ, G, J, rr, qq⟩ := q
    exact ⟨w, τ, G, J.ofTry ok, rr, qq⟩
  | _ =>
    obtain ⟨τ, G, J, qq⟩ := q
    exact ⟨τ, G, J.ofTry ok, qq⟩
end
end PV
namespace PV
open PySem PySem.Spec PyProof.Rows L2

/-! ### what comes of a piece of code: stuck (nothing is claimed), a value, an exception of class c with a field x -/
inductive Rs (α : Type) where
  | st | ok (a : α) | er (c : Nat) (n : Int)
namespace Rs
def bind {α β : Type} : Rs α → (α → Rs β) → Rs β
  | .st, _ => .st
  | .ok a, f => f a
  | .er c x, _ => .er c x
instance : Monad Rs where
  pure := .ok
  bind := bind
@[simp] theorem ok_bind {α β : Type} (a : α) (f : α → Rs β) : (Rs.ok a >>= f) = f a := (rfl)
@[simp] theorem st_bind {α β : Type} (f : α → Rs β) : ((Rs.st : Rs α) >>= f) = .st := (rfl)
@[simp] theorem er_bind {α β : Type} (c : Nat) (x : Int) (f : α → Rs β) : ((Rs.er c x : Rs α) >>= f) = .er c x := (rfl)
@[simp] theorem pure_eq {α : Type} (a : α) : (pure a : Rs α) = .ok a := (rfl)
theorem bind_ok {α β : Type} {x : Rs α} {f : α → Rs β} {b : β} (h : (x >>= f) = .ok b) : ∃ a, x = .ok a ∧ f a = .ok b := by
  cases x with
  | st => cases h
  | ok a => exact ⟨a, rfl, h⟩
  | er c x => cases h
end Rs

/-! ### operations on data -/
mutual
def D.eqv : D → D → Bool
  | .non, .non => true
  | .bl a, .bl b => a == b
  | .bl a, .int j => (if a then 1 else 0) == j
  | .int i, .bl b => i == (if b then 1 else 0)
  | .int i, .int j => i == j
  | .str x, .str y => x == y
  | .lst xs, .lst ys => D.eqvs xs ys
  | .tup xs, .tup ys => D.eqvs xs ys
  | _, _ => false
def D.eqvs : List D → List D → Bool
  | [], [] => true
  | x :: xs, y :: ys => D.eqv x y && D.eqvs xs ys
  | _, _ => false
end
/-- data that == takes: flat things, lists, tuples, to depth n -/
def okN : Nat → D → Bool
  | _, .non => true
  | _, .bl _ => true
  | _, .int _ => true
  | _, .str s => PyData.strOk s
  | n + 1, .tup xs => xs.all (okN n)
  | n + 1, .lst xs => xs.all (okN n)
  | _, _ => false
/-- no lists, dicts, objects in it -/
def flatN : Nat → D → Bool
  | _, .non => true
  | _, .bl _ => true
  | _, .int _ => true
  | _, .str _ => true
  | n + 1, .tup xs => xs.all (flatN n)
  | _, _ => false
/-- flat, or a new list of flat things -/
def flat1 : D → Bool
  | .lst xs => xs.all (flatN 40)
  | d => flatN 40 d

inductive Bop where
  | add | sub | mul | fdiv | mod | pow | shl | shr | band | bor | bxor
inductive Cop where
  | eq | ne | lt | le | gt | ge | isN | notN | inn | notin
inductive Ty where
  | int | bool | str | tuple | list

def idiv (i j : Int) : Int := if 0 < j then i / j else i.fdiv j
def imod (i j : Int) : Int := if 0 < j then i % j else i.fmod j

def dBin : Bop → D → D → Rs D
  | .add, .int i, .int j => .ok (.int (i + j))
  | .add, .str x, .str y => if x.length + y.length ≤ sizeLine then .ok (.str (x ++ y)) else .st
  | .add, .lst xs, .lst ys => if xs.length + ys.length ≤ sizeLine then .ok (.lst (xs ++ ys)) else .st
  | .add, .tup xs, .tup ys => if xs.length + ys.length ≤ sizeLine then .ok (.tup (xs ++ ys)) else .st
  | .sub, .int i, .int j => .ok (.int (i - j))
  | .mul, .int i, .int j => if (-18446744073709551616 < i ∧ i < 18446744073709551616) ∨ (-18446744073709551616 < j ∧ j < 18446744073709551616) then .ok (.int (i * j)) else .st
  | .mul, .tup xs, .int k => if 0 ≤ k ∧ k ≤ 1000 ∧ xs.length ≤ 1000 then .ok (.tup (List.replicate k.toNat xs).flatten) else .st
  | .fdiv, .int i, .int j => if j ≠ 0 ∧ j.natAbs < 1073741824 then .ok (.int (idiv i j)) else .st
  | .mod, .int i, .int j => if j ≠ 0 then .ok (.int (imod i j)) else .st
  | .pow, .int i, .int j => if 0 ≤ j ∧ j ≤ 1000000 ∧ i.natAbs < 2 ^ 64 then .ok (.int (i ^ j.toNat)) else .st
  | .shl, .int i, .int j => if 0 ≤ j ∧ j ≤ 1000000 ∧ i.natAbs < 2 ^ 64 then .ok (.int (i * 2 ^ j.toNat)) else .st
  | .shr, .int i, .int j => if 0 ≤ j then .ok (.int (i / 2 ^ j.toNat)) else .st
  | .band, .int i, .int j => .ok (.int (Builtin.bitAnd i j))
  | .bor, .int i, .int j => .ok (.int (Builtin.bitOr i j))
  | .bxor, .int i, .int j => .ok (.int (Builtin.bitXor i j))
  | _, _, _ => .st

/-- pairs of ints or of texts -/
def cmpAll : List D → List D → Bool
  | .int _ :: xs, .int _ :: ys => cmpAll xs ys
  | .str _ :: xs, .str _ :: ys => cmpAll xs ys
  | [], _ => true
  | _, [] => true
  | _, _ => false
/-- the first unlike items decide -/
def lexLt : List D → List D → Bool
  | [], [] => false
  | [], _ :: _ => true
  | _ :: _, [] => false
  | .int i :: xs, .int j :: ys => if i = j then lexLt xs ys else decide (i < j)
  | .str x :: xs, .str y :: ys => if x = y then lexLt xs ys else decide (x.cps.toList < y.cps.toList)
  | _, _ => false
def flatD : D → Bool
  | .non => true
  | .bl _ => true
  | .int _ => true
  | .str _ => true
  | _ => false

/-- keys of a dict of its kind -/
def isK : D → Bool
  | .int _ => true
  | .str _ => true
  | _ => false
def okK (t : Bool) (k : D) : Bool := bif t then isKT k else isK k
def dFind (kvs : List (D × D)) (k : D) : Option D := (kvs.find? fun p => D.eqv p.1 k).map (·.2)
def dPut (kvs : List (D × D)) (k v : D) : List (D × D) := if (kvs.any fun p => D.eqv p.1 k) = true then kvs.map (fun p => if D.eqv p.1 k = true then (p.1, v) else p) else kvs ++ [(k, v)]
def dSdf (kvs : List (D × D)) (k v : D) : List (D × D) := if (dFind kvs k).isSome = true then kvs else dPut kvs k v
def dIn (d : D) (xs : List D) : Bool := xs.any fun e => D.eqv e d

def isI : D → Bool
  | .int _ => true
  | _ => false
def dCmp : Cop → D → D → Rs D
  | .eq, .str x, .str y => .ok (.bl (x == y))
  | .ne, .str x, .str y => .ok (.bl (!(x == y)))
  | .eq, d, e => if okN 60 d && okN 60 e then .ok (.bl (D.eqv d e)) else .st
  | .ne, d, e => if okN 60 d && okN 60 e then .ok (.bl (!D.eqv d e)) else .st
  | .lt, .int i, .int j => .ok (.bl (decide (i < j)))
  | .le, .int i, .int j => .ok (.bl (decide (i ≤ j)))
  | .gt, .int i, .int j => .ok (.bl (decide (j < i)))
  | .ge, .int i, .int j => .ok (.bl (decide (j ≤ i)))
  | .lt, .tup xs, .tup ys => if cmpAll xs ys then .ok (.bl (lexLt xs ys)) else .st
  | .lt, .lst xs, .lst ys => if cmpAll xs ys then .ok (.bl (lexLt xs ys)) else .st
  | .ge, .tup xs, .tup ys => if cmpAll xs ys && xs.all isI then .ok (.bl (!lexLt xs ys)) else .st
  | .isN, d, .non => .ok (.bl (match d with | .non => true | _ => false))
  | .notN, d, .non => .ok (.bl (match d with | .non => false | _ => true))
  | .isN, .bl a, .bl b => .ok (.bl (decide (a = b)))
  | .notN, .bl a, .bl b => .ok (.bl (!decide (a = b)))
  | .inn, .str x, .str y => match x.cps.toList with
    | [c] => .ok (.bl (decide (c ∈ y.cps.toList)))
    | _ => .st
  | .notin, .str x, .str y => match x.cps.toList with
    | [c] => .ok (.bl (!decide (c ∈ y.cps.toList)))
    | _ => .st
  | .inn, d, .lst xs => if okN 60 d && xs.all (okN 60) then .ok (.bl (dIn d xs)) else .st
  | .inn, d, .tup xs => if flatD d && xs.all flatD then .ok (.bl (dIn d xs)) else .st
  | .notin, d, .tup xs => if flatD d && xs.all flatD then .ok (.bl (!dIn d xs)) else .st
  | .notin, d, .lst xs => if okN 60 d && xs.all (okN 60) then .ok (.bl (!dIn d xs)) else .st
  | .inn, d, .dct t kvs => if okK t d then .ok (.bl (dFind kvs d).isSome) else .st
  | .notin, d, .dct t kvs => if okK t d then .ok (.bl (!(dFind kvs d).isSome)) else .st
  | _, _, _ => .st

def dIx : D → D → Rs D
  | .lst xs, .int i => match atI xs i with | some d => .ok d | none => .st
  | .tup xs, .int i => match atI xs i with | some d => .ok d | none => .st
  | .str s, .int i => if s.length ≤ sizeLine then (match atI s.cps.toList i with | some c => .ok (.str ⟨#[c]⟩) | none => .st) else .st
  | .dct t kvs, k => if okK t k then (match dFind kvs k with | some d => .ok d | none => .st) else .st
  | .gtp xs, .int i => match atI xs i with | some d => .ok d | none => .st
  | .gdc kvs, .str s => match dFind kvs (.str s) with | some d => .ok d | none => .st
  | _, _ => .st

def cutD (xs : List D) (lo hi : Option Int) : List D := (xs.drop (HT.sIx xs.length 0 lo)).take (HT.sIx xs.length xs.length hi - HT.sIx xs.length 0 lo)
def dSl : D → Option Int → Option Int → Rs D
  | .lst xs, lo, hi => .ok (.lst (cutD xs lo hi))
  | .tup xs, lo, hi => .ok (.tup (cutD xs lo hi))
  | .str z, lo, hi => if z.length ≤ sizeLine then .ok (.str (cutS z lo hi)) else .st
  | _, _, _ => .st

/-- pairs of ints, in order -/
def dPrs : List D → Option (List (Int × Int))
  | [] => some []
  | .tup [.int i, .int j] :: r => (dPrs r).map ((i, j) :: ·)
  | _ => none
def pLt (p q : Int × Int) : Bool := if p.1 = q.1 then decide (p.2 < q.2) else decide (p.1 < q.1)
def insP (x : Int × Int) : List (Int × Int) → List (Int × Int)
  | [] => [x]
  | y :: l => if pLt y x = true then y :: insP x l else x :: y :: l
def psort (l : List (Int × Int)) : List (Int × Int) := l.foldr insP []
def pD (p : Int × Int) : D := .tup [.int p.1, .int p.2]
/-- sorted(d), d a dict whose keys are pairs of ints -/
def srtD (kvs : List (D × D)) : Rs D := match dPrs (kvs.map (·.1)) with
  | some ps => .ok (.lst ((psort ps).map pD))
  | none => .st
def tyIs : D → Ty → Rs Bool
  | .non, _ => .ok false
  | .bl _, .int => .ok true
  | .bl _, .bool => .ok true
  | .bl _, _ => .ok false
  | .int _, .int => .ok true
  | .int _, _ => .ok false
  | .str _, .str => .ok true
  | .str _, _ => .ok false
  | .tup _, .tuple => .ok true
  | .tup _, _ => .ok false
  | .lst _, .list => .ok true
  | .lst _, _ => .ok false
  | _, _ => .st

/-- built-in functions by their arguments -/
inductive Bi where
  | len | abs | max2 | min2 | int1 | str1 | list1 | tuple1 | divmod | sum | all | any | max1 | min1 | sorted1
/-- needs no calm -/
def Bi.cool : Bi → Bool
  | .sum => false | .all => false | .any => false | .max2 => false | .min2 => false
  | _ => true
def dInts : List D → Option (List Int)
  | [] => some []
  | .int i :: r => (dInts r).map (i :: ·)
  | _ => none
def insI (x : Int) : List Int → List Int
  | [] => [x]
  | y :: l => if x ≤ y then x :: y :: l else y :: insI x l
/-- the numbers, rising -/
def isort (l : List Int) : List Int := l.foldr insI []
def dStrs : List D → Option (List Str)
  | [] => some []
  | .str i :: r => (dStrs r).map (i :: ·)
  | _ => none
/-- the first place of a text -/
def sIdx (z : Str) : List Str → Option Nat
  | [] => none
  | y :: r => if y = z then some 0 else (sIdx z r).map (· + 1)
def dBls : List D → Option (List Bool)
  | [] => some []
  | .bl i :: r => (dBls r).map (i :: ·)
  | _ => none
def dBi : Bi → List D → Rs D
  | .len, [.lst xs] => .ok (.int xs.length)
  | .len, [.tup xs] => .ok (.int xs.length)
  | .len, [.gtp xs] => .ok (.int xs.length)
  | .len, [.nst xs] => .ok (.int xs.length)
  | .len, [.dct _ kvs] => if kvs.length ≤ sizeLine then .ok (.int kvs.length) else .st
  | .len, [.str s] => if s.length ≤ sizeLine then .ok (.int s.length) else .st
  | .abs, [.int i] => .ok (.int (if i < 0 then -i else i))
  | .max2, [.int i, .int j] => .ok (.int (if j > i then j else i))
  | .min2, [.int i, .int j] => .ok (.int (if j < i then j else i))
  | .int1, [.int i] => .ok (.int i)
  | .int1, [.bl b] => .ok (.int (if b then 1 else 0))
  | .int1, [.str s] => match PySem.intText? s with
    | some n => if s.length ≤ 640 then .ok (.int n) else .st
    | none => .st
  | .str1, [.int i] => if i.natAbs.log2 < 1920 then .ok (.str (toString i)) else .st
  | .list1, [.lst xs] => .ok (.lst xs)
  | .list1, [.tup xs] => .ok (.lst xs)
  | .tuple1, [.lst xs] => .ok (.tup xs)
  | .tuple1, [.tup xs] => .ok (.tup xs)
  | .divmod, [.int i, .int j] => if j ≠ 0 ∧ j.natAbs < 1073741824 then .ok (.tup [.int (idiv i j), .int (imod i j)]) else .st
  | .sorted1, [.lst xs] => match dInts xs with | some ns => .ok (.lst ((isort ns).map D.int)) | none => .st
  | .sum, [.lst xs] => match dInts xs with | some ns => .ok (.int ns.sum) | none => .st
  | .all, [.lst xs] => match dBls xs with | some bs => .ok (.bl (bs.all id)) | none => .st
  | .any, [.lst xs] => match dBls xs with | some bs => .ok (.bl (bs.any id)) | none => .st
  | _, _ => .st

/-! ### the code, names resolved -/
inductive Cst where
  | int (i : Int) | str (s : Str) | bl (b : Bool) | non
def Cst.d : Cst → D
  | .int i => .int i
  | .str s => .str s
  | .bl b => .bl b
  | .non => .non
/-- a target: one name, or several from a tuple -/
inductive Tg where
  | one (i : Nat) | many (is : List Nat)
/-- a call whose result is known to hold no lists (or to be a new list of such): then own lists may be handed in -/
inductive Fk where
  | any | flat | flat1
def Fk.ok : Fk → D → Bool
  | .any, _ => true
  | .flat, d => flatN 40 d
  | .flat1, d => PV.flat1 d
def jnD (a : Str) (xs : List D) : Rs D := match dStrs xs with
  | some ys => if (ys.map (·.length)).sum + ys.length * a.length ≤ 16777216 then .ok (.str (Txt.join a ys)) else .st
  | none => .st
def fmtD : D → Rs D
  | .str y => if y.length ≤ sizeLine then .ok (.str y) else .st
  | .int i => if i.natAbs.log2 < 1920 then .ok (.str (toString i)) else .st
  | _ => .st
def jnS : List D → Str → Option Str
  | [], acc => some acc
  | .str y :: r, acc => if (acc ++ y).length ≤ sizeLine then jnS r (acc ++ y) else none
  | _ :: _, _ => none
mutual
inductive Ex where
  | var (i : Nat) | cst (c : Cst) | glob (g : Nat)
  | bin (o : Bop) (a b : Ex) | neg (a : Ex) | not (a : Ex) | and (a b : Ex) | or (a b : Ex)
  | cmp (o : Cop) (a b : Ex) | chain (o o' : Cop) (a b c : Ex) | ite (c a b : Ex)
  | tup (es : Exs) | lst (es : Exs)
  | ix (a b : Ex) | sl (a : Ex) (lo hi : Ox)
  | cal (fl : Fk) (f : Nat) (es : Exs)
  | bi (b : Bi) (es : Exs)
  | isi (a : Ex) (t : Ty)
  | inr (n : Bool) (x a : Ex)
  | rgA (t : Bool) (a : Ex) | rgB (t : Bool) (a b : Ex)
  | dsp (ks : List Cst) (es : Exs) | rpl (es : Exs) (k : Ex) | stp (a k : Ex) | gtd (a k d : Ex) | dnw (t : Bool) | gt1 (a k : Ex) | dvl (a : Ex)
  | spt (a e : Ex) | sw (a e : Ex) | jn (a e : Ex) | fmt (a : Ex) | fs (es : Exs)
  | dspT (k e : Ex) | srtD (a : Ex) | nix (a k : Ex) | nls (tg : Tg) (s : Sr) | xf (a : Ex) (f : Str) (cs : List Nat) | isx (a : Ex) (k : Nat) (tb : List (Nat × Bool))
  | dnl | nln | lix (a e : Ex) | sst (a : Ex)
  | mk (c : Nat) | tix (a x : Ex) | mth (a : Ex) (tb : List (Nat × Nat)) (m : Str) (es : Exs) | isc (a : Ex) (k : Nat) (tb : List (Nat × Bool))
  | lc (tg : Tg) (s : Sr) (c : Ox) (e : Ex)
  | vlc (i : Nat) (tg : Tg) (e : Ex)
inductive Exs where
  | nil | cons (e : Ex) (es : Exs)
inductive Ox where
  | no | yes (e : Ex)
inductive Sr where
  | val (e : Ex) | rng1 (a : Ex) | rng2 (a b : Ex) | rng3 (a b : Ex) (c : Int) | enum (a : Ex) | zip (a b : Ex) | vals (a : Ex)
end

abbrev Env := List (Option D)
def vget (δ : Env) (i : Nat) : Rs D := match δ[i]? with
  | some (some d) => .ok d
  | _ => .st
/-- the meaning of the defs and constants by their numbers; how often a while turns at most -/
structure Mn where
  F : Nat → List D → Rs D
  gl : Nat → D
  wf : Nat
def tset1 : Tg → D → Env → Rs Env
  | .one i, d, δ => .ok (δ.set i (some d))
  | .many is, .lst ds, δ => if is.length = ds.length then .ok ((is.zip ds).foldl (fun δ p => δ.set p.1 (some p.2)) δ) else .st
  | .many is, .tup ds, δ => if is.length = ds.length then .ok ((is.zip ds).foldl (fun δ p => δ.set p.1 (some p.2)) δ) else .st
  | _, _, _ => .st
def compL (tg : Tg) (c : Env → Rs D) (e : Env → Rs D) : List D → Env → Rs (List D)
  | [], _ => .ok []
  | x :: xs, δ => do
    let δ' ← tset1 tg x δ
    let b ← c δ'
    match b with
    | .bl true => do
      let y ← e δ'
      let r ← compL tg c e xs δ
      .ok (y :: r)
    | .bl false => compL tg c e xs δ
    | _ => .st
def Tg.slots : Tg → List Nat
  | .one i => [i]
  | .many is => is
def wipeD (δ : Env) : List Nat → Env
  | [] => δ
  | v :: vs => (wipeD δ vs).set v none
def items : D → Rs (List D)
  | .lst xs => .ok xs
  | .tup xs => .ok xs
  | .nst xs => .ok xs
  | .str s => .ok (s.cps.toList.map fun c => .str ⟨#[c]⟩)
  | _ => .st
def iota (lo : Int) : Nat → List D
  | 0 => []
  | n + 1 => .int lo :: iota (lo + 1) n
def iotaC (lo : Int) (c : Int) : Nat → List D
  | 0 => []
  | n + 1 => .int lo :: iotaC (lo + c) c n
/-- sorted(set(..)) -/
def insU (x : Int) : List Int → List Int
  | [] => [x]
  | y :: l => if x < y then x :: y :: l else if x = y then y :: l else y :: insU x l
def dset (ns : List Int) : List Int := ns.foldr insU []
/-- the first entry of a key -/
def kIdx (k : D) : List (D × D) → Option Nat
  | [] => none
  | x :: r => if D.eqv x.1 k = true then some 0 else (kIdx k r).map (· + 1)
/-- the first place of a thing -/
def idxD (d : D) : List D → Option Nat
  | [] => none
  | x :: r => if D.eqv x d = true then some 0 else (idxD d r).map (· + 1)
/-- by the class's number -/
def tbl {α : Type} : List (Nat × α) → Nat → Option α
  | [], _ => none
  | (k, v) :: r, i => if k = i then some v else tbl r i
def okI (i : Int) : Bool := decide (-4611686018427387904 ≤ i) && decide (i < 4611686018427387904)
/-! ### what holds no list -/
def atomD : D → Bool
  | .int _ => true
  | .str _ => true
  | .bl _ => true
  | .non => true
  | _ => false
def tupD : D → Bool
  | .tup ds => ds.all atomD
  | _ => false
mutual
def ev (M : Mn) : Ex → Env → Rs D
  | .var i, δ => vget δ i
  | .cst c, _ => .ok c.d
  | .glob g, _ => .ok (M.gl g)
  | .bin o a b, δ => do let x ← ev M a δ; let y ← ev M b δ; dBin o x y
  | .neg a, δ => do
    let x ← ev M a δ
    match x with
    | .int i => .ok (.int (-i))
    | _ => .st
  | .not a, δ => do
    let x ← ev M a δ
    match x with
    | .bl b => .ok (.bl (!b))
    | _ => .st
  | .and a b, δ => do
    let x ← ev M a δ
    match x with
    | .bl true => ev M b δ
    | .bl false => .ok (.bl false)
    | _ => .st
  | .or a b, δ => do
    let x ← ev M a δ
    match x with
    | .bl true => .ok (.bl true)
    | .bl false => ev M b δ
    | _ => .st
  | .cmp o a b, δ => do let x ← ev M a δ; let y ← ev M b δ; dCmp o x y
  | .chain o o' a b c, δ => do
    let x ← ev M a δ
    let y ← ev M b δ
    let r ← dCmp o x y
    match r with
    | .bl true => do let z ← ev M c δ; dCmp o' y z
    | .bl false => .ok (.bl false)
    | _ => .st
  | .ite c a b, δ => do
    let x ← ev M c δ
    match x with
    | .bl true => ev M a δ
    | .bl false => ev M b δ
    | _ => .st
  | .tup es, δ => do let ds ← evs M es δ; if ds.length ≤ sizeLine then .ok (.tup ds) else .st
  | .lst es, δ => do let ds ← evs M es δ; if ds.length ≤ sizeLine then .ok (.lst ds) else .st
  | .ix a b, δ => do let x ← ev M a δ; let y ← ev M b δ; dIx x y
  | .sl a lo hi, δ => do
    let x ← ev M a δ
    let l ← evo M lo δ
    let h ← evo M hi δ
    dSl x l h
  | .cal fl f es, δ => do
    let ds ← evs M es δ
    let r ← M.F f ds
    if fl.ok r then .ok r else .st
  | .bi b es, δ => do let ds ← evs M es δ; dBi b ds
  | .isi a t, δ => do let x ← ev M a δ; let b ← tyIs x t; .ok (.bl b)
  | .inr n x a, δ => do
    let x ← ev M x δ
    let y ← ev M a δ
    match x, y with
    | .int i, .int j => .ok (.bl (if n then !decide (0 ≤ i ∧ i < j) else decide (0 ≤ i ∧ i < j)))
    | _, _ => .st
  | .rgA t a, δ => do
    let x ← ev M a δ
    match x with
    | .int j => if okI j && decide (j.toNat ≤ 16777216) then .ok (if t then .tup (iota 0 j.toNat) else .lst (iota 0 j.toNat)) else .st
    | _ => .st
  | .rgB t a b, δ => do
    let x ← ev M a δ
    let y ← ev M b δ
    match x, y with
    | .int i, .int j => if okI i && okI j && decide ((j - i).toNat ≤ 16777216) then .ok (if t then .tup (iota i (j - i).toNat) else .lst (iota i (j - i).toNat)) else .st
    | _, _ => .st
  | .dsp ks es, δ => do
    let ds ← evs M es δ
    if ds.length = ks.length ∧ ks.all (fun k => isK k.d) = true then .ok (.dct false ((ks.map Cst.d).zip ds |>.foldl (fun kvs p => dPut kvs p.1 p.2) [])) else .st
  | .gtd a k d, δ => do
    let x ← ev M a δ
    let y ← ev M k δ
    let z ← ev M d δ
    match x with
    | .dct t kvs => if okK t y then .ok ((dFind kvs y).getD z) else .st
    | _ => .st
  | .dnw t, _ => .ok (.dct t [])
  | .gt1 a k, δ => do
    let x ← ev M a δ
    let y ← ev M k δ
    match x with
    | .dct t kvs => if okK t y then .ok ((dFind kvs y).getD .non) else .st
    | _ => .st
  | .dvl a, δ => do
    let x ← ev M a δ
    match x with
    | .dct _ kvs => if kvs.length ≤ sizeLine then .ok (.lst (kvs.map (·.2))) else .st
    | _ => .st
  | .dspT k e, δ => do
    let x ← ev M k δ
    let y ← ev M e δ
    if isKT x then .ok (.dct true [(x, y)]) else .st
  | .srtD a, δ => do
    let x ← ev M a δ
    match x with
    | .dct true kvs => if kvs.length ≤ sizeLine then srtD kvs else .st
    | _ => .st
  | .nix a k, δ => do
    let x ← ev M a δ
    let y ← ev M k δ
    match x, y with
    | .nst xs, .int j => match atI xs j with | some d => .ok d | none => .st
    | _, _ => .st
  | .xf a _ cs, δ => do
    let x ← ev M a δ
    match x with
    | .exc c n => if c ∈ cs then .ok (.int n) else .st
    | _ => .st
  | .isx a _ tb, δ => do
    let x ← ev M a δ
    match x with
    | .exc c _ => match tbl tb c with
      | some b => .ok (.bl b)
      | none => .st
    | _ => .st
  | .mk c, _ => .ok (.ins c)
  | .sst a, δ => do
    let x ← ev M a δ
    match x with
    | .lst xs => match dInts xs with
      | some ns => if ns.length < 60 then .ok (.lst ((dset ns).map D.int)) else .st
      | none => .st
    | _ => .st
  | .dnl, _ => .ok (.ndc [])
  | .nln, _ => .ok (.nst [])
  | .lix a e, δ => do
    let x ← ev M a δ
    let y ← ev M e δ
    match x with
    | .lst xs => if okN 60 y && xs.all (okN 60) then (match idxD y xs with
      | some j => .ok (.int j)
      | none => .st) else .st
    | _ => .st
  | .spt a e, δ => do
    let x ← ev M a δ
    let y ← ev M e δ
    match x, y with
    | .str a, .str b => if (b.length == 0) = false ∧ a.length + 2 ≤ sizeLine then .ok (.lst ((Txt.split a b).map D.str)) else .st
    | _, _ => .st
  | .sw a e, δ => do
    let x ← ev M a δ
    let y ← ev M e δ
    match x, y with
    | .str a, .str b => .ok (.bl (Txt.startswith a b))
    | _, _ => .st
  | .jn a e, δ => do
    let x ← ev M a δ
    let y ← ev M e δ
    match x, y with
    | .str a, .lst xs => jnD a xs
    | .str a, .tup xs => jnD a xs
    | _, _ => .st
  | .fmt a, δ => do
    let x ← ev M a δ
    fmtD x
  | .fs es, δ => do
    let ds ← evs M es δ
    match jnS ds Str.empty with
    | some s => .ok (.str s)
    | none => .st
  | .tix a x, δ => do
    let x' ← ev M a δ
    let y ← ev M x δ
    match x', y with
    | .gtp xs, .str z => match (dStrs xs).bind (sIdx z) with
      | some j => .ok (.int j)
      | none => .st
    | _, _ => .st
  | .mth a tb _ es, δ => do
    let x ← ev M a δ
    let ds ← evs M es δ
    match x with
    | .ins c => match tbl tb c with
      | some f => M.F f (x :: ds)
      | none => .st
    | _ => .st
  | .isc a _ tb, δ => do
    let x ← ev M a δ
    match x with
    | .ins c => match tbl tb c with
      | some b => .ok (.bl b)
      | none => .st
    | _ => .st
  | .rpl es a, δ => do
    let ds ← evs M es δ
    let x ← ev M a δ
    match x with
    | .int k => if okI k && decide (ds.length ≤ sizeLine) && decide (ds.length * k.toNat ≤ sizeLine) then .ok (.lst (List.replicate k.toNat ds).flatten) else .st
    | _ => .st
  | .stp a k, δ => do
    let x ← ev M a δ
    let y ← ev M k δ
    match x, y with
    | .lst xs, .int i => if i = -1 then .ok (.lst xs.reverse) else .st
    | _, _ => .st
  | .nls tg s, δ => do
    let xs ← evr M s δ
    let ys ← compL tg (fun _ => .ok (.bl true)) (fun _ => .ok (.lst [])) xs (wipeD δ tg.slots)
    if ys.length ≤ sizeLine then .ok (.nst ys) else .st
  | .lc tg s c e, δ => do
    let xs ← evr M s δ
    let ys ← compL tg (evc M c) (ev M e) xs (wipeD δ tg.slots)
    if ys.length ≤ sizeLine then .ok (.lst ys) else .st
  | .vlc i tg e, δ => do
    let d ← vget δ i
    match d with
    | .ndc ds => do
      let ys ← compL tg (fun _ => .ok (.bl true)) (ev M e) (ds.map (·.2)) (wipeD (δ.map fun _ => none) tg.slots)
      if ys.length ≤ sizeLine ∧ ys.all tupD = true then .ok (.lst ys) else .st
    | _ => .st
def evs (M : Mn) : Exs → Env → Rs (List D)
  | .nil, _ => .ok []
  | .cons e es, δ => do let x ← ev M e δ; let r ← evs M es δ; .ok (x :: r)
def evo (M : Mn) : Ox → Env → Rs (Option Int)
  | .no, _ => .ok none
  | .yes e, δ => do
    let x ← ev M e δ
    match x with
    | .int i => .ok (some i)
    | _ => .st
def evc (M : Mn) : Ox → Env → Rs D
  | .no, _ => .ok (.bl true)
  | .yes e, δ => ev M e δ
def evr (M : Mn) : Sr → Env → Rs (List D)
  | .val e, δ => do let x ← ev M e δ; items x
  | .rng1 a, δ => do
    let x ← ev M a δ
    match x with
    | .int j => if okI j then .ok (iota 0 j.toNat) else .st
    | _ => .st
  | .rng2 a b, δ => do
    let x ← ev M a δ
    let y ← ev M b δ
    match x, y with
    | .int i, .int j => if okI i && okI j then .ok (iota i (j - i).toNat) else .st
    | _, _ => .st
  | .rng3 a b c, δ => do
    let x ← ev M a δ
    let y ← ev M b δ
    match x, y with
    | .int i, .int j => if decide (c ≠ 0) && decide (c.natAbs < 1073741824) && Builtin.Range.small i j c then .ok (iotaC i c (Builtin.Range.rangeSize i j c).toNat) else .st
    | _, _ => .st
  | .enum a, δ => do
    let x ← ev M a δ
    match x with
    | .lst xs => .ok ((iota 0 xs.length).zipWith (fun i d => D.tup [i, d]) xs)
    | .tup xs => .ok ((iota 0 xs.length).zipWith (fun i d => D.tup [i, d]) xs)
    | _ => .st
  | .zip a b, δ => do
    let x ← ev M a δ
    let y ← ev M b δ
    match x, y with
    | .lst xs, .lst ys => .ok (xs.zipWith (fun c d => D.tup [c, d]) ys)
    | .tup xs, .tup ys => .ok (xs.zipWith (fun c d => D.tup [c, d]) ys)
    | _, _ => .st
  | .vals a, δ => do
    let x ← ev M a δ
    match x with
    | .ndc kvs => .ok (kvs.map (·.2))
    | _ => .st
end

/-! ### statements -/
def isMutX : D → Bool
  | .lst _ => true
  | .dct _ _ => true
  | .nst _ => true
  | .ndc _ => true
  | .obj _ _ => true
  | _ => false
inductive Fl where
  | nx (δ : Env) | rt (d : D) | bk (δ : Env) | ct (δ : Env) | er (c : Nat) (n : Int) (δ : Env)
/-- what becomes of a call's result -/
inductive Rk where
  | drop | set (i : Nat) | own (i : Nat) | ret
mutual
inductive St where
  | set (own : Bool) (i : Nat) (e : Ex)
  | unp (is : List Nat) (e : Ex)
  | par (i j : Nat) (a b : Ex)
  | seti (i : Nat) (k e : Ex)
  | puti (i : Nat) (k e : Ex)
  | sdf (i : Nat) (k e : Ex)
  | app (i : Nat) (e : Ex)
  | apn (i : Nat) (k e : Ex)
  | apl (i : Nat) (e : Ex)
  | sda (i : Nat) (k e : Ex)
  | ext (i : Nat) (e : Ex)
  | aug (i : Nat) (o : Bop) (e : Ex)
  | ret (e : Ex) | retN
  | iff (c : Ex) (a b : Sts)
  | for (tg : Tg) (s : Sr) (b : Sts) (keep : List Nat)
  | whl (c : Ex) (b : Sts) (keep : List Nat)
  | brk | cnt | pas | drop (e : Ex) | nev
  | tri (b o : Sts) | popu (is : List Nat) (i : Nat) | pop0 (is : List Nat) (i : Nat)
  | rse (c : Nat) (e : Ex) | rcl (k : Rk) (f : Nat) (es : Exs) | trx (b : Sts) (h : Hds) (o : Sts) (keep : List Nat)
  | mfor (tg : Tg) (i f : Nat) (es : Exs) (b : Sts) (keep : List Nat) | mcl (k : Rk) (i f : Nat) (es : Exs) | retM (j : Nat)
inductive Sts where
  | nil | cons (s : St) (r : Sts) | frz (i : Nat) (r : Sts)
inductive Hds where
  | nil | cons (k : Nat) (tb : List (Nat × Bool)) (as : Option Nat) (b : Sts) (r : Hds)
end
def setO (δ : Env) : Option Nat → Option D → Env
  | some i, d => δ.set i d
  | none, _ => δ
/-- the end of a suite: the exception's name goes -/
def unAs (as : Option Nat) : Fl → Rs Fl
  | .nx δ => .ok (.nx (setO δ as none))
  | .bk δ => .ok (.bk (setO δ as none))
  | .ct δ => .ok (.ct (setO δ as none))
  | .rt d => .ok (.rt d)
  | .er _ _ _ => .st
/-- a call's result -/
def rkD (k : Rk) (δ : Env) (d : D) : Rs Fl := match k with
  | .drop => .ok (.nx δ)
  | .set i => .ok (.nx (δ.set i (some d)))
  | .own i => if isMutX d && decide (i < δ.length) then .ok (.nx (δ.set i (some d))) else .st
  | .ret => .ok (.rt d)
def forL (tg : Tg) (b : Env → Rs Fl) : List D → Env → Rs Fl
  | [], δ => .ok (.nx δ)
  | x :: xs, δ => do
    let δ' ← tset1 tg x δ
    let f ← b δ'
    match f with
    | .nx δ => forL tg b xs δ
    | .ct δ => forL tg b xs δ
    | .bk δ => .ok (.nx δ)
    | .rt d => .ok (.rt d)
    | .er c n δ => .ok (.er c n δ)
def whlL (c : Env → Rs D) (b : Env → Rs Fl) : Nat → Env → Rs Fl
  | 0, _ => .st
  | n + 1, δ => do
    let t ← c δ
    match t with
    | .bl true => do
      let f ← b δ
      match f with
      | .nx δ => whlL c b n δ
      | .ct δ => whlL c b n δ
      | .bk δ => .ok (.nx δ)
      | .rt d => .ok (.rt d)
      | .er c n δ => .ok (.er c n δ)
    | .bl false => .ok (.nx δ)
    | _ => .st
abbrev isMut := isMutX
mutual
def exS (M : Mn) : St → Env → Rs Fl
  | .set own i e, δ => do
    let x ← ev M e δ
    if own && !(isMut x && decide (i < δ.length)) then .st else .ok (.nx (δ.set i (some x)))
  | .unp is e, δ => do
    let x ← ev M e δ
    let δ' ← tset1 (.many is) x δ
    .ok (.nx δ')
  | .par i j a b, δ => do
    let x ← ev M a δ
    let y ← ev M b δ
    .ok (.nx ((δ.set i (some x)).set j (some y)))
  | .seti i k e, δ => do
    let v ← ev M e δ
    let o ← vget δ i
    let k ← ev M k δ
    match o, k with
    | .lst xs, .int k => match ixN xs.length k with
      | some j => .ok (.nx (δ.set i (some (.lst (xs.set j v)))))
      | none => .st
    | _, _ => .st
  | .puti i k e, δ => do
    let v ← ev M e δ
    let o ← vget δ i
    let k ← ev M k δ
    match o with
    | .dct t kvs => if okK t k && decide (kvs.length < sizeLine) then .ok (.nx (δ.set i (some (.dct t (dPut kvs k v))))) else .st
    | _ => .st
  | .sdf i k e, δ => do
    let o ← vget δ i
    let k ← ev M k δ
    let v ← ev M e δ
    match o with
    | .dct t kvs => if okK t k && decide (kvs.length < sizeLine) then .ok (.nx (δ.set i (some (.dct t (dSdf kvs k v))))) else .st
    | _ => .st
  | .app i e, δ => do
    let o ← vget δ i
    let v ← ev M e δ
    match o with
    | .lst xs => if xs.length < sizeLine then .ok (.nx (δ.set i (some (.lst (xs ++ [v]))))) else .st
    | _ => .st
  | .apn i k e, δ => do
    let o ← vget δ i
    let k ← ev M k δ
    let v ← ev M e δ
    match o, k with
    | .nst ds, .int k => match ixN ds.length k with
      | some m => match ds[m]? with
        | some (.lst xs) => if xs.length < sizeLine then .ok (.nx (δ.set i (some (.nst (ds.set m (.lst (xs ++ [v]))))))) else .st
        | _ => .st
      | none => .st
    | _, _ => .st
  | .apl i e, δ => do
    let o ← vget δ i
    let v ← ev M e δ
    match o, v with
    | .nst ds, .lst xs => if ds.length < sizeLine then .ok (.nx (δ.set i (some (.nst (ds ++ [.lst xs]))))) else .st
    | _, _ => .st
  | .sda i k e, δ => do
    let o ← vget δ i
    let k ← ev M k δ
    let v ← ev M e δ
    match o with
    | .ndc kvs => if isKT k && decide (kvs.length < sizeLine) then (match kIdx k kvs with
      | some m => match kvs[m]? with
        | some (k0, .lst xs) => if xs.length < sizeLine then .ok (.nx (δ.set i (some (.ndc (kvs.set m (k0, .lst (xs ++ [v]))))))) else .st
        | _ => .st
      | none => .ok (.nx (δ.set i (some (.ndc (kvs ++ [(k, .lst [v])])))))) else .st
    | _ => .st
  | .ext i e, δ => do
    let o ← vget δ i
    let v ← ev M e δ
    match o, v with
    | .lst xs, .lst ys => if xs.length + ys.length ≤ sizeLine then .ok (.nx (δ.set i (some (.lst (xs ++ ys))))) else .st
    | _, _ => .st
  | .aug i o e, δ => do
    let x ← vget δ i
    let y ← ev M e δ
    match x, y with
    | .int x, .int y => do let z ← dBin o (.int x) (.int y); .ok (.nx (δ.set i (some z)))
    | _, _ => .st
  | .ret e, δ => do let x ← ev M e δ; .ok (.rt x)
  | .retN, _ => .ok (.rt .non)
  | .iff c a b, δ => do
    let x ← ev M c δ
    match x with
    | .bl true => exB M a δ
    | .bl false => exB M b δ
    | _ => .st
  | .for tg s b _, δ => do
    let xs ← evr M s δ
    forL tg (exB M b) xs δ
  | .whl c b _, δ => whlL (ev M c) (exB M b) M.wf δ
  | .brk, δ => .ok (.bk δ)
  | .cnt, δ => .ok (.ct δ)
  | .pas, δ => .ok (.nx δ)
  | .drop e, δ => do let _ ← ev M e δ; .ok (.nx δ)
  | .nev, _ => .st
  | .popu is i, δ => do
    let o ← vget δ i
    match o with
    | .lst xs => match xs[xs.length - 1]? with
      | some d => do
        let δ' ← tset1 (.many is) d (δ.set i (some (.lst xs.dropLast)))
        .ok (.nx δ')
      | none => .st
    | _ => .st
  | .tri b o, δ => do
    let f ← exB M b δ
    match f with
    | .nx δ => exB M o δ
    | .er _ _ _ => .st
    | f => .ok f
  | .pop0 is i, δ => do
    let o ← vget δ i
    match o with
    | .lst (d :: xs) => do
        let δ' ← tset1 (.many is) d (δ.set i (some (.lst xs)))
        .ok (.nx δ')
    | _ => .st
  | .rse c e, δ => do
    let x ← ev M e δ
    match x with
    | .int n => if n.natAbs.log2 < 1920 then .ok (.er c n δ) else .st
    | _ => .st
  | .rcl k f es, δ => do
    let ds ← evs M es δ
    match M.F f ds with
    | .ok d => rkD k δ d
    | .er c n => .ok (.er c n δ)
    | .st => .st
  | .mcl k i f es, δ => do
    let ds ← evs M es δ
    let d0 ← vget δ i
    match M.F f (d0 :: ds) with
    | .ok (.tup [d, d1]) => rkD k (δ.set i (some d1)) d
    | _ => .st
  | .mfor tg i f es b _, δ => do
    let ds ← evs M es δ
    let d0 ← vget δ i
    match M.F f (d0 :: ds) with
    | .ok (.tup [.lst xs, d1]) => forL tg (exB M b) xs (δ.set i (some d1))
    | _ => .st
  | .retM j, δ => do
    let x ← vget δ j
    let d0 ← vget δ 0
    .ok (.rt (.tup [x, d0]))
  | .trx b h o _, δ => do
    let f ← exB M b δ
    match f with
    | .nx δ => exB M o δ
    | .er c n δ => exH M h c n δ
    | f => .ok f
def exH (M : Mn) : Hds → Nat → Int → Env → Rs Fl
  | .nil, _, _, _ => .st
  | .cons _ tb as b r, c, n, δ => match tbl tb c with
    | some true => do
      let f ← exB M b (setO δ as (some (.exc c n)))
      unAs as f
    | some false => exH M r c n δ
    | none => .st
def exB (M : Mn) : Sts → Env → Rs Fl
  | .nil, δ => .ok (.nx δ)
  | .frz _ r, δ => exB M r δ
  | .cons s r, δ => do
    let f ← exS M s δ
    match f with
    | .nx δ => exB M r δ
    | f => .ok f
end
/-- an exception out of an expression is none of ours -/
def nE : Rs Fl → Rs Fl
  | .er _ _ => .st
  | x => x
def onR (f : Fl) : Rs D := match f with
  | .rt d => .ok d
  | .nx _ => .ok .non
  | .er c n _ => .er c n
  | _ => .st
/-- a def: its parameters, its number of names, its body -/
def runD (M : Mn) (n : Nat) (b : Sts) (as : List D) : Rs D := nE (exB M b (as.map some ++ List.replicate (n - as.length) none)) >>= onR
end PV
namespace PV
open PySem PySem.Spec PyProof.Rows L2

def Trk (O : Addr → Prop) (H : Hp) : Prop := ∀ a, O a → ∃ u, H a = some u ∧ isM u = true
/-- lists in a list, own ones: qs their addresses among F -/
def InnL (G : Wd) (O F : Addr → Prop) (H : Hp) (p : Addr) (qs : List Addr) (dss : List (List D)) : Prop :=
  qs.Nodup ∧ qs.length = dss.length ∧ ∀ (i : Nat) (q : Addr) (ds : List D), qs[i]? = some q → dss[i]? = some ds → q ≠ p ∧ F q ∧ ∃ xs, H q = some (.lst xs) ∧ Reps G O H xs ds
/-- lists in a dict, own ones -/
def InnD (G : Wd) (O F : Addr → Prop) (H : Hp) (p : Addr) (xs : List NE) (kvs : List (D × List D)) : Prop :=
  (xs.map (·.2.2)).Nodup ∧ xs.length = kvs.length ∧ ∀ (i : Nat) (x : NE) (kv : D × List D), xs[i]? = some x → kvs[i]? = some kv →
    x.1 = nk kv.1 ∧ isKT kv.1 = true ∧ Rep G O H (.ref x.2.1) kv.1 ∧ ∃ q ys, x.2.2 = .ref q ∧ q ≠ p ∧ F q ∧ H q = some (.lst ys) ∧ Reps G O H ys kv.2
/-- a list or dict at p, what it holds no one's own (or own lists), all its addresses among F -/
def Own (G : Wd) (O F : Addr → Prop) (H : Hp) (p : Addr) (d : D) : Prop := F p ∧ Trk F H ∧ (
  (∃ xs ds, d = .lst ds ∧ H p = some (.lst xs) ∧ Reps G O H xs ds) ∨
  (∃ kvs ds, d = .dct false ds ∧ H p = some (.dK kvs) ∧ RepsK G O H kvs ds) ∨
  (∃ kvs ds, d = .dct true ds ∧ H p = some (DNo G.w p kvs) ∧ RepsT G O H kvs ds) ∨
  (∃ qs dss, d = .nst (dss.map D.lst) ∧ H p = some (.lst (qs.map V.ref)) ∧ InnL G O F H p qs dss) ∨
  (∃ xs kvs, d = .ndc (kvs.map fun x => (x.1, D.lst x.2)) ∧ H p = some (DNo G.w p xs) ∧ InnD G O F H p xs kvs) ∨
  (∃ c xs, d = .obj c xs ∧ G.ob c p F (Rep G O H) H xs))
/-- to be read: no one's own, or an own one's top -/
def RepB (G : Wd) (O : Addr → Prop) (H : Hp) (v : V) (d : D) : Prop := Rep G O H v d ∨ ∃ p F, v = .ref p ∧ (∀ a, F a → O a) ∧ Own G O F H p d
/-- what is handed out: n: perhaps a new list or dict -/
def RetO (n : Bool) (G : Wd) (O : Addr → Prop) (H H' : Hp) (v : V) (d : D) : Prop :=
  if n = true then (∃ p F, v = .ref p ∧ (∀ a, F a → H a = none) ∧ Own G (fun a => O a ∨ F a) F H' p d) ∨ (isMut d = false ∧ Rep G O H' v d) else Rep G O H' v d
inductive Mo where
  | frz | new | bor
  deriving DecidableEq
def Out (G : Wd) (m : Mo) (O : Addr → Prop) (H H' : Hp) (v : V) (d : D) : Prop := match m with
  | .frz => Rep G O H' v d
  | .new => RetO true G O H H' v d
  | .bor => RepB G O H' v d

section
variable {G : Wd} {O O' F F' : Addr → Prop} {H H' H'' : Hp} {p : Addr} {v : V} {d : D}
theorem Trk.no (t : Trk O H) (h : H p = none) : ¬ O p := fun o => by
  obtain ⟨u, e, _⟩ := t p o
  rw [h] at e; cases e
theorem Trk.same (t : Trk O H) (s : Same H H') : Trk O H' := fun a o => let ⟨u, e, m⟩ := t a o; ⟨u, s a u e, m⟩
theorem same_ext (s : Same H H') : Ext O H O H' := fun a u e n => ⟨s a u e, n⟩
theorem less_ext (h : ∀ a, O' a → O a) : Ext O H O' H := fun a u e n => ⟨e, fun o => n (h a o)⟩
theorem Rep.same (s : Same H H') (h : Rep G O H v d) : Rep G O H' v d := h.ext (same_ext s)
theorem Reps.same {vs : List V} {ds : List D} (s : Same H H') (h : Reps G O H vs ds) : Reps G O H' vs ds := h.ext (same_ext s)
theorem Rep.less (h : ∀ a, O' a → O a) (r : Rep G O H v d) : Rep G O' H v d := r.ext (less_ext h)
theorem Own.ext (x : Ext O H O' H') (k : ∀ a u, F a → H a = some u → H' a = some u) (h : Own G O F H p d) : Own G O' F H' p d := by
  obtain ⟨fp, tf, h⟩ := h
  refine ⟨fp, fun a o => let ⟨u, e, m⟩ := tf a o; ⟨u, k a u o e, m⟩, ?_⟩
  rcases h with ⟨xs, ds, e, hp, r⟩ | ⟨kvs, ds, e, hp, r⟩ | ⟨kvs, ds, e, hp, r⟩ | ⟨qs, dss, e, hp, n, l, r⟩ | ⟨xs, kvs, e, hp, n, l, r⟩ | ⟨c, xs, e, r⟩
  · exact .inl ⟨xs, ds, e, k _ _ fp hp, r.ext x⟩
  · exact .inr (.inl ⟨kvs, ds, e, k _ _ fp hp, r.ext x⟩)
  · exact .inr (.inr (.inl ⟨kvs, ds, e, k _ _ fp hp, r.ext x⟩))
  · refine .inr (.inr (.inr (.inl ⟨qs, dss, e, k _ _ fp hp, n, l, fun i q ds h1 h2 => ?_⟩)))
    obtain ⟨a1, a2, ys, a3, a4⟩ := r i q ds h1 h2
    exact ⟨a1, a2, ys, k _ _ a2 a3, a4.ext x⟩
  · refine .inr (.inr (.inr (.inr (.inl ⟨xs, kvs, e, k _ _ fp hp, n, l, fun i y kv h1 h2 => ?_⟩))))
    obtain ⟨a1, a2, a3, q, ys, a4, a5, a6, a7, a8⟩ := r i y kv h1 h2
    exact ⟨a1, a2, a3.ext x, q, ys, a4, a5, a6, k _ _ a6 a7, a8.ext x⟩
  · exact .inr (.inr (.inr (.inr (.inr ⟨c, xs, e, G.obx (fun v d q => q.ext x) k r⟩))))
theorem Own.same (s : Same H H') (h : Own G O F H p d) : Own G O F H' p d := h.ext (same_ext s) fun a u _ e => s a u e
theorem Own.less (h : ∀ a, O' a → O a) (r : Own G O F H p d) : Own G O' F H p d := r.ext (less_ext h) fun _ _ _ e => e
theorem Reps.of_get : ∀ {vs : List V} {ds : List D}, vs.length = ds.length → (∀ (i : Nat) (v : V) (d : D), vs[i]? = some v → ds[i]? = some d → Rep G O H v d) → Reps G O H vs ds
  | [], [], _, _ => .nil
  | v :: vs, d :: ds, l, h => .cons (h 0 v d rfl rfl) (Reps.of_get (by simpa using l) fun i v d h1 h2 => h (i + 1) v d (by simpa using h1) (by simpa using h2))
  | [], _ :: _, l, _ => by cases l
  | _ :: _, [], l, _ => by cases l
theorem RepsT.of_get : ∀ {xs : List NE} {ds : List (D × D)}, xs.length = ds.length → (∀ (i : Nat) (x : NE) (d : D × D), xs[i]? = some x → ds[i]? = some d → ∃ v, x.1 = nk d.1 ∧ isKT d.1 = true ∧ Rep G O H (.ref x.2.1) d.1 ∧ RelV v x.2.2 ∧ Rep G O H v d.2) → RepsT G O H xs ds
  | [], [], _, _ => .nil
  | x :: xs, (k, d) :: ds, l, h => by
    obtain ⟨v, a1, a2, a3, a4, a5⟩ := h 0 x (k, d) rfl rfl
    exact .cons a1 a2 a3 a4 a5 (RepsT.of_get (by simpa using l) fun i v d h1 h2 => h (i + 1) v d (by simpa using h1) (by simpa using h2))
  | [], _ :: _, l, _ => by cases l
  | _ :: _, [], l, _ => by cases l
/-- no more an own one -/
theorem Own.rep (h : Own G O F H p d) (n : ∀ a, F a → ¬ O a) : Rep G O H (.ref p) d := by
  obtain ⟨fp, tf, h⟩ := h
  rcases h with ⟨xs, ds, rfl, hp, r⟩ | ⟨kvs, ds, rfl, hp, r⟩ | ⟨kvs, ds, rfl, hp, r⟩ | ⟨qs, dss, rfl, hp, _, l, r⟩ | ⟨xs, kvs, rfl, hp, _, l, r⟩ | ⟨c, xs, rfl, r⟩
  · exact .lst (.inl hp) (n p fp) r
  · exact .dK hp (n p fp) r
  · exact .dT hp (n p fp) r
  · refine .nst (.lst (.inl hp) (n p fp) (Reps.of_get (by simp [l]) fun i v d h1 h2 => ?_))
    rw [List.getElem?_map] at h1 h2
    obtain ⟨q, h3, rfl⟩ := Option.map_eq_some_iff.mp h1
    obtain ⟨ds, h4, rfl⟩ := Option.map_eq_some_iff.mp h2
    obtain ⟨a1, a2, ys, a3, a4⟩ := r i q ds h3 h4
    exact .lst (.inl a3) (n q a2) a4
  · refine .ndc (.dT hp (n p fp) (RepsT.of_get (by simp [l]) fun i x d h1 h2 => ?_))
    rw [List.getElem?_map] at h2
    obtain ⟨kv, h4, rfl⟩ := Option.map_eq_some_iff.mp h2
    obtain ⟨a1, a2, a3, q, ys, a4, a5, a6, a7, a8⟩ := r i x kv h1 h4
    exact ⟨.ref q, a1, a2, a3, a4, .lst (.inl a7) (n q a6) a8⟩
  · exact .obj
theorem Own.top (h : Own G O F H p d) : ∃ u, H p = some u ∧ isM u = true := h.2.1 p h.1
theorem Own.mut (h : Own G O F H p d) : isMut d = true := by
  rcases h.2.2 with ⟨_, _, rfl, _⟩ | ⟨_, _, rfl, _⟩ | ⟨_, _, rfl, _⟩ | ⟨_, _, rfl, _⟩ | ⟨_, _, rfl, _⟩ | ⟨_, _, rfl, _⟩ <;> rfl
/-- by its kind -/
theorem Own.lst {ds : List D} (h : Own G O F H p (.lst ds)) : ∃ xs, H p = some (.lst xs) ∧ Reps G O H xs ds := by
  rcases h.2.2 with ⟨_, _, z, h1, h2⟩ | ⟨_, _, z, _⟩ | ⟨_, _, z, _⟩ | ⟨_, _, z, _⟩ | ⟨_, _, z, _⟩ | ⟨_, _, z, _⟩ <;> cases z
  exact ⟨_, h1, h2⟩
theorem Own.dctF {ds : List (D × D)} (h : Own G O F H p (.dct false ds)) : ∃ xs, H p = some (.dK xs) ∧ RepsK G O H xs ds := by
  rcases h.2.2 with ⟨_, _, z, _⟩ | ⟨_, _, z, h1, h2⟩ | ⟨_, _, z, _⟩ | ⟨_, _, z, _⟩ | ⟨_, _, z, _⟩ | ⟨_, _, z, _⟩ <;> cases z
  exact ⟨_, h1, h2⟩
theorem Own.dctT {ds : List (D × D)} (h : Own G O F H p (.dct true ds)) : ∃ xs, H p = some (DNo G.w p xs) ∧ RepsT G O H xs ds := by
  rcases h.2.2 with ⟨_, _, z, _⟩ | ⟨_, _, z, _⟩ | ⟨_, _, z, h1, h2⟩ | ⟨_, _, z, _⟩ | ⟨_, _, z, _⟩ | ⟨_, _, z, _⟩ <;> cases z
  exact ⟨_, h1, h2⟩
theorem Own.nst {ds : List D} (h : Own G O F H p (.nst ds)) : ∃ qs dss, ds = dss.map D.lst ∧ H p = some (.lst (qs.map V.ref)) ∧ InnL G O F H p qs dss := by
  rcases h.2.2 with ⟨_, _, z, _⟩ | ⟨_, _, z, _⟩ | ⟨_, _, z, _⟩ | ⟨_, _, z, h1, h2⟩ | ⟨_, _, z, _⟩ | ⟨_, _, z, _⟩ <;> cases z
  exact ⟨_, _, rfl, h1, h2⟩
theorem Own.ndc {ds : List (D × D)} (h : Own G O F H p (.ndc ds)) : ∃ xs kvs, ds = kvs.map (fun x : D × List D => (x.1, D.lst x.2)) ∧ H p = some (DNo G.w p xs) ∧ InnD G O F H p xs kvs := by
  rcases h.2.2 with ⟨_, _, z, _⟩ | ⟨_, _, z, _⟩ | ⟨_, _, z, _⟩ | ⟨_, _, z, _⟩ | ⟨_, _, z, h1, h2⟩ | ⟨_, _, z, _⟩ <;> cases z
  exact ⟨_, _, rfl, h1, h2⟩
theorem Own.obj {c : Nat} {ds : List D} (h : Own G O F H p (.obj c ds)) : G.ob c p F (Rep G O H) H ds := by
  rcases h.2.2 with ⟨_, _, z, _⟩ | ⟨_, _, z, _⟩ | ⟨_, _, z, _⟩ | ⟨_, _, z, _⟩ | ⟨_, _, z, _⟩ | ⟨_, _, z, h1⟩ <;> cases z
  exact h1
theorem trk_one {o : HO} (e : H p = some o) (m : isM o = true) : Trk (fun a => a = p) H := fun a q => q ▸ ⟨o, e, m⟩
/-- a flat one, by its top alone -/
theorem Own.mkL {xs : List V} {ds : List D} (e : H p = some (.lst xs)) (fp : F p) (tf : Trk F H) (r : Reps G O H xs ds) : Own G O F H p (.lst ds) := ⟨fp, tf, .inl ⟨xs, ds, rfl, e, r⟩⟩
theorem Own.mkF {xs : List (Key × V)} {ds : List (D × D)} (e : H p = some (.dK xs)) (fp : F p) (tf : Trk F H) (r : RepsK G O H xs ds) : Own G O F H p (.dct false ds) := ⟨fp, tf, .inr (.inl ⟨xs, ds, rfl, e, r⟩)⟩
theorem Own.mkT {xs : List NE} {ds : List (D × D)} (e : H p = some (DNo G.w p xs)) (fp : F p) (tf : Trk F H) (r : RepsT G O H xs ds) : Own G O F H p (.dct true ds) := ⟨fp, tf, .inr (.inr (.inl ⟨xs, ds, rfl, e, r⟩))⟩
theorem RepB.same (s : Same H H') (h : RepB G O H v d) : RepB G O H' v d := by
  rcases h with h | ⟨p, F, e, f, h⟩
  · exact .inl (h.same s)
  · exact .inr ⟨p, F, e, f, h.same s⟩
theorem RetO.rep {n : Bool} (h : RetO n G O H H' v d) (t : Trk O H) : Rep G O H' v d := by
  unfold RetO at h
  split at h
  · rcases h with ⟨p, F, rfl, hp, h⟩ | ⟨_, h⟩
    · exact (h.less (O' := O) fun a o => .inl o).rep fun a f => t.no (hp a f)
    · exact h
  · exact h
theorem RetO.mono {n : Bool} (s : Same H H') (h : RetO n G O H' H'' v d) : RetO n G O H H'' v d := by
  unfold RetO at h ⊢
  split
  · rename_i hn
    rw [if_pos hn] at h
    rcases h with ⟨p, F, e, hp, h⟩ | h
    · exact .inl ⟨p, F, e, fun a f => s.free (hp a f), h⟩
    · exact .inr h
  · rename_i hn
    rw [if_neg hn] at h
    exact h
theorem RetO.of_rep (h : Rep G O H' v d) (m : isMut d = false) : RetO true G O H H' v d := .inr ⟨m, h⟩
theorem RetO.of_false (h : Rep G O H' v d) : RetO false G O H H' v d := h
theorem Out.b {m : Mo} (h : Out G m O H H' v d) (t : Trk O H) : RepB G O H' v d := by
  cases m with
  | frz => exact .inl h
  | new => exact .inl (RetO.rep h t)
  | bor => exact h
theorem Out.f {m : Mo} (h : Out G m O H H' v d) (t : Trk O H) (n : m ≠ .bor) : Rep G O H' v d := by
  cases m with
  | frz => exact h
  | new => exact RetO.rep h t
  | bor => exact absurd rfl n
theorem Out.mono {m : Mo} (s : Same H H') (h : Out G m O H' H'' v d) : Out G m O H H'' v d := by
  cases m with
  | frz => exact h
  | new => exact RetO.mono s h
  | bor => exact h
/-! what stands behind -/
theorem RepB.rep (h : RepB G O H v d) (m : isMut d = false) : Rep G O H v d := by
  rcases h with h | ⟨p, F, e, f, h⟩
  · exact h
  · rw [h.mut] at m; cases m
theorem RepB.int {i : Int} (h : RepB G O H v (.int i)) : v = .int i := by
  cases h.rep rfl; rfl
theorem RepB.str {i : Str} (h : RepB G O H v (.str i)) : v = .str i := by
  cases h.rep rfl; rfl
theorem RepB.bl {i : Bool} (h : RepB G O H v (.bl i)) : v = .bl i := by
  cases h.rep rfl; rfl
theorem RepB.non (h : RepB G O H v .non) : v = .non := by
  cases h.rep rfl; rfl
theorem RepB.lst {ds : List D} (h : RepB G O H v (.lst ds)) : ∃ p xs, v = .ref p ∧ SqL G.K H p xs ∧ Reps G O H xs ds := by
  rcases h with h | ⟨p, F, e, f, h⟩
  · cases h with
    | lst r n h => exact ⟨_, _, rfl, .inl r, h⟩
    | lstK r h => exact ⟨_, _, rfl, r H, h⟩
  · obtain ⟨xs, hp, r⟩ := h.lst
    exact ⟨p, _, e, .inl (.inl hp), r⟩
theorem Rep.tup {ds : List D} (h : Rep G O H v (.tup ds)) : ∃ p xs, v = .ref p ∧ SqT G.K H p xs ∧ Reps G O H xs ds := by
  cases h with
  | tupH r n h => exact ⟨_, _, rfl, .inl r, h⟩
  | tupK r h => exact ⟨_, _, rfl, r H, h⟩
theorem RepB.tup {ds : List D} (h : RepB G O H v (.tup ds)) : ∃ p xs, v = .ref p ∧ SqT G.K H p xs ∧ Reps G O H xs ds := (h.rep rfl).tup
/-- what stands as an object -/
def isR : D → Bool
  | .tup _ => true
  | .lst _ => true
  | .dct _ _ => true
  | .gdc _ => true
  | .gtp _ => true
  | .ins _ => true
  | .exc _ _ => true
  | .nst _ => true
  | .ndc _ => true
  | .obj _ _ => true
  | _ => false
theorem Rep.ref (h : Rep G O H v d) (r : isR d = true) : ∃ p, v = .ref p := by
  cases h <;> first | exact ⟨_, rfl⟩ | (cases r; done) | skip
  · rename_i h; cases h <;> exact ⟨_, rfl⟩
  · rename_i h; cases h; exact ⟨_, rfl⟩
theorem RepB.ref (h : RepB G O H v d) (r : isR d = true) : ∃ p, v = .ref p := by
  rcases h with h | ⟨p, F, e, _⟩
  · exact h.ref r
  · exact ⟨p, e⟩
/-! new objects -/
theorem same_new {o : HO} (h : H p = none) : Same H (upd H p o) := fun b u e => by
  rw [upd_ne (ne_of_none e h)]; exact e
theorem new_tup {vs : List V} {ds : List D} (t : Trk O H) (h : H p = none) (r : Reps G O H vs ds) : Rep G O (upd H p (.tup vs)) (.ref p) (.tup ds) :=
  .tupH (.inl upd_same) (t.no h) (r.same (same_new h))
theorem Reps.more {vs : List V} {ds : List D} (h : H p = none) (r : Reps G O H vs ds) : Reps G (fun a => O a ∨ a = p) H vs ds := by
  refine r.ext fun a u e n => ⟨e, fun z => ?_⟩
  rcases z with z | rfl
  · exact n z
  · rw [h] at e; cases e
/-- a new one, flat -/
theorem new_own (h : H p = none) (m : Own G (fun a => O a ∨ a = p) (fun a => a = p) H' p d) : RetO true G O H H' (.ref p) d := .inl ⟨p, fun a => a = p, rfl, fun a q => q ▸ h, m⟩
theorem new_lst {vs : List V} {ds : List D} (h : H p = none) (r : Reps G O H vs ds) : RetO true G O H (upd H p (.lst vs)) (.ref p) (.lst ds) :=
  new_own h (.mkL upd_same rfl (trk_one upd_same rfl) ((r.more h).same (same_new h)))
end

/-! ### dicts whose keys are ints or texts -/
theorem eqv_kD (a b : Key) : D.eqv (kD a) (kD b) = decide (a = b) := by
  cases a <;> cases b <;> simp only [kD, D.eqv] <;> first | (simp; done) | (rw [Bool.eq_iff_iff]; simp)
theorem isK_kD {d : D} (h : isK d = true) : ∃ k, d = kD k := by
  cases d with
  | int i => exact ⟨.inl i, rfl⟩
  | str s => exact ⟨.inr s, rfl⟩
  | _ => cases h
section
variable {G : Wd} {O : Addr → Prop} {H : Hp}
theorem RepsK.find : ∀ {kvs : List (Key × V)} {ds : List (D × D)} (k : Key), RepsK G O H kvs ds → (valV kvs k = none ∧ dFind ds (kD k) = none) ∨ ∃ v d, valV kvs k = some v ∧ dFind ds (kD k) = some d ∧ Rep G O H v d
  | _, _, k, .nil => .inl ⟨rfl, rfl⟩
  | _, _, k, .cons (k := k') (v := v) (vs := vs) (d := d) (ds := ds) h r => by
    by_cases e : k' = k
    · exact .inr ⟨v, d, valV_pos e, by unfold dFind; rw [List.find?_cons, eqv_kD, decide_eq_true e]; rfl, h⟩
    · have e1 : valV ((k', v) :: vs) k = valV vs k := valV_neg e
      have e2 : dFind ((kD k', d) :: ds) (kD k) = dFind ds (kD k) := by unfold dFind; rw [List.find?_cons, eqv_kD, decide_eq_false e]
      rw [e1, e2]
      exact RepsK.find k r
theorem RepsK.any : ∀ {kvs : List (Key × V)} {ds : List (D × D)} (k : Key), RepsK G O H kvs ds → (kvs.any fun kv => decide (kv.1 = k)) = (ds.any fun p => D.eqv p.1 (kD k))
  | _, _, k, .nil => rfl
  | _, _, k, .cons h r => by rw [List.any_cons, List.any_cons, eqv_kD, RepsK.any k r]
theorem RepsK.repl : ∀ {kvs : List (Key × V)} {ds : List (D × D)} {k : Key} {v : V} {d : D}, RepsK G O H kvs ds → Rep G O H v d →
    RepsK G O H (kvs.map fun kv => if kv.1 = k then (kv.1, v) else kv) (ds.map fun p => if D.eqv p.1 (kD k) = true then (p.1, d) else p)
  | _, _, _, _, _, .nil, _ => .nil
  | _, _, k, v, d, .cons (k := k') h r, q => by
    rw [List.map_cons, List.map_cons, eqv_kD]
    by_cases e : k' = k
    · rw [if_pos e, if_pos (decide_eq_true e)]; exact .cons q (RepsK.repl r q)
    · rw [if_neg e, if_neg (by simp [e])]; exact .cons h (RepsK.repl r q)
theorem RepsK.append : ∀ {kvs : List (Key × V)} {ds : List (D × D)} {kvs' : List (Key × V)} {ds' : List (D × D)}, RepsK G O H kvs ds → RepsK G O H kvs' ds' → RepsK G O H (kvs ++ kvs') (ds ++ ds')
  | _, _, _, _, .nil, r => r
  | _, _, _, _, .cons h r, r' => .cons h (RepsK.append r r')
theorem RepsK.put {kvs : List (Key × V)} {ds : List (D × D)} {k : Key} {v : V} {d : D} (r : RepsK G O H kvs ds) (q : Rep G O H v d) : RepsK G O H (putK kvs k v) (dPut ds (kD k) d) := by
  unfold putK dPut
  rw [r.any k]
  split
  · exact r.repl q
  · exact r.append (.cons q .nil)
theorem RepsK.length : ∀ {kvs : List (Key × V)} {ds : List (D × D)}, RepsK G O H kvs ds → kvs.length = ds.length
  | _, _, .nil => rfl
  | _, _, .cons _ r => by simp [RepsK.length r]
theorem RepB.dct {v : V} {t : Bool} {ds : List (D × D)} (ht : t = false) (h : RepB G O H v (.dct t ds)) : ∃ p kvs, v = .ref p ∧ H p = some (.dK kvs) ∧ RepsK G O H kvs ds := by
  subst ht
  rcases h with h | ⟨p, F, rfl, f, h⟩
  · cases h with
    | dK e n r => exact ⟨_, _, rfl, e, r⟩
  · obtain ⟨kvs, hp, r⟩ := h.dctF
    exact ⟨p, kvs, rfl, hp, r⟩
theorem RepB.gdc {v : V} {ds : List (D × D)} (h : RepB G O H v (.gdc ds)) : ∃ p kvs, v = .ref p ∧ (∀ z v, valV kvs (.inr z) = some v → KDct G.K G.w p z v) ∧ RepsK G O H kvs ds := by
  cases h.rep rfl with
  | dG e r => exact ⟨_, _, rfl, e, r⟩
theorem RepB.gtp {v : V} {ds : List D} (h : RepB G O H v (.gtp ds)) : ∃ p xs, v = .ref p ∧ (∀ H', SqT G.K H' p xs) ∧ (∃ o, G.K.lookup p = some o ∧ o.cls = .type "tuple" ∧ o.dict = none) ∧ Reps G O H xs ds := by
  cases h.rep rfl with
  | gT e q r => exact ⟨_, _, rfl, e, q, r⟩
theorem RepB.key {v : V} {k : Key} (h : RepB G O H v (kD k)) : v = kV k := by
  cases k with
  | inl i => exact h.int
  | inr i => exact h.str
/-- lists in a list, as they are read -/
theorem RepB.nst {v : V} {ds : List D} (h : RepB G O H v (.nst ds)) : ∃ p xs, v = .ref p ∧ SqL G.K H p xs ∧ xs.length = ds.length ∧ ∀ (i : Nat) (x : V) (d : D), xs[i]? = some x → ds[i]? = some d → RepB G O H x d := by
  rcases h with h | ⟨p, F, rfl, f, h⟩
  · cases h with
    | nst h =>
      obtain ⟨p, xs, rfl, h1, h2⟩ := RepB.lst (.inl h)
      refine ⟨p, xs, rfl, h1, h2.length, fun i x d e1 e2 => ?_⟩
      obtain ⟨x', e3, r⟩ := h2.get e2
      rw [e1] at e3; cases e3
      exact .inl r
  · obtain ⟨qs, dss, rfl, hp, _, l, r⟩ := h.nst
    refine ⟨p, _, rfl, .inl (.inl hp), by simp [l], fun i x d h1 h2 => ?_⟩
    rw [List.getElem?_map] at h1 h2
    obtain ⟨q, h3, rfl⟩ := Option.map_eq_some_iff.mp h1
    obtain ⟨ds, h4, rfl⟩ := Option.map_eq_some_iff.mp h2
    obtain ⟨a1, a2, ys, a3, a4⟩ := r i q ds h3 h4
    exact .inr ⟨q, fun a => a = q, rfl, fun a z => z ▸ f q a2, .mkL a3 rfl (trk_one a3 rfl) a4⟩
end

/-! ### data for == -/
mutual
def pd : D → PyData
  | .non => .none
  | .bl b => .bool b
  | .int i => .int i
  | .str s => .str s
  | .tup xs => .tuple (pds xs)
  | .lst xs => .list (pds xs)
  | .dct _ _ => .none
  | .gdc _ => .none
  | .gtp _ => .none
  | .ins _ => .none
  | .exc _ _ => .none
  | .nst _ => .none
  | .ndc _ => .none
  | .obj _ _ => .none
def pds : List D → List PyData
  | [] => []
  | x :: xs => pd x :: pds xs
end
theorem pds_map : ∀ xs : List D, pds xs = xs.map pd
  | [] => rfl
  | x :: xs => by rw [pds, pds_map xs]; rfl
theorem okN_at {n : Nat} {xs : List D} (h : okN n (.tup xs) = true) : ∃ m, n = m + 1 ∧ xs.all (okN m) = true := by
  cases n with
  | zero => cases h
  | succ m => exact ⟨m, rfl, h⟩
theorem okN_at' {n : Nat} {xs : List D} (h : okN n (.lst xs) = true) : ∃ m, n = m + 1 ∧ xs.all (okN m) = true := by
  cases n with
  | zero => cases h
  | succ m => exact ⟨m, rfl, h⟩
section
variable {G : Wd} {O : Addr → Prop} {H : Hp}
mutual
theorem Rep.dp : ∀ {n : Nat} {v : V} {d : D}, Rep G O H v d → okN n d = true → Dp G.K H v (pd d)
  | _, _, _, .non, _ => by rw [pd]; exact .non
  | _, _, _, .bl b, _ => by rw [pd]; exact .bl b
  | _, _, _, .int b, _ => by rw [pd]; exact .int b
  | _, _, _, .str b, _ => by rw [pd]; exact .str b
  | n, _, _, .tupH r _ h, e => by
    obtain ⟨m, _, e'⟩ := okN_at e
    rw [pd]; exact .tup (.inl r) (Reps.dp h e')
  | n, _, _, .tupK r h, e => by
    obtain ⟨m, _, e'⟩ := okN_at e
    rw [pd]; exact .tup (r H) (Reps.dp h e')
  | n, _, _, .lst r _ h, e => by
    obtain ⟨m, _, e'⟩ := okN_at' e
    rw [pd]; exact .lst (.inl r) (Reps.dp h e')
  | n, _, _, .lstK r h, e => by
    obtain ⟨m, _, e'⟩ := okN_at' e
    rw [pd]; exact .lst (r H) (Reps.dp h e')
  | n, _, _, .dK _ _ _, e => by cases n <;> cases e
  | n, _, _, .dT _ _ _, e => by cases n <;> cases e
  | n, _, _, .ins _ _, e => by cases n <;> cases e
  | n, _, _, .dG _ _, e => by cases n <;> cases e
  | n, _, _, .gT _ _ _, e => by cases n <;> cases e
  | n, _, _, .exc _ _ _ _ _, e => by cases n <;> cases e
  | n, _, _, .nst _, e => by cases n <;> cases e
  | n, _, _, .ndc _, e => by cases n <;> cases e
  | n, _, _, .obj, e => by cases n <;> cases e
theorem Reps.dp : ∀ {n : Nat} {vs : List V} {ds : List D}, Reps G O H vs ds → ds.all (okN n) = true → DpAll G.K H vs (pds ds)
  | _, _, _, .nil, _ => by rw [pds]; exact .nil
  | n, _, _, .cons h r, e => by
    rw [List.all_cons, Bool.and_eq_true] at e
    rw [pds]; exact .cons (Rep.dp h e.1) (Reps.dp r e.2)
end
theorem RepB.dp {n : Nat} {v : V} {d : D} (h : RepB G O H v d) (e : okN n d = true) : Dp G.K H v (pd d) := by
  rcases h with h | ⟨p, F, rfl, f, h⟩
  · exact h.dp e
  · rcases h.2.2 with ⟨xs, ds, rfl, hp, r⟩ | ⟨xs, ds, rfl, hp, r⟩ | ⟨xs, ds, rfl, hp, r⟩ | ⟨_, _, rfl, _⟩ | ⟨_, _, rfl, _⟩ | ⟨_, _, rfl, _⟩
    · obtain ⟨m, _, e'⟩ := okN_at' e
      rw [pd]; exact .lst (.inl (.inl hp)) (r.dp e')
    · cases n <;> cases e
    · cases n <;> cases e
    · cases n <;> cases e
    · cases n <;> cases e
    · cases n <;> cases e
end
mutual
theorem canLay_pd : ∀ (n : Nat) (d : D), okN n d = true → (pd d).canLay0 = true ∧ (pd d).depth ≤ n
  | n, .non, _ => by simp [pd, PyData.canLay0, PyData.depth]
  | n, .bl b, _ => by simp [pd, PyData.canLay0, PyData.depth]
  | n, .int b, _ => by simp [pd, PyData.canLay0, PyData.depth]
  | n, .str b, h => by
    have h' : PyData.strOk b = true := by cases n <;> exact h
    simp [pd, PyData.canLay0, PyData.depth, h']
  | 0, .tup xs, e => by cases e
  | n + 1, .tup xs, e => by
    have h := canLays_pd n xs e
    simp only [pd, PyData.canLay0, PyData.depth]
    exact ⟨h.1, by omega⟩
  | 0, .lst xs, e => by cases e
  | n + 1, .lst xs, e => by
    have h := canLays_pd n xs e
    simp only [pd, PyData.canLay0, PyData.depth]
    exact ⟨h.1, by omega⟩
  | n, .dct _ _, e => by cases n <;> cases e
  | n, .gdc _, e => by cases n <;> cases e
  | n, .gtp _, e => by cases n <;> cases e
  | n, .ins _, e => by cases n <;> cases e
  | n, .exc _ _, e => by cases n <;> cases e
  | n, .nst _, e => by cases n <;> cases e
  | n, .ndc _, e => by cases n <;> cases e
  | n, .obj _ _, e => by cases n <;> cases e
theorem canLays_pd : ∀ (n : Nat) (xs : List D), xs.all (okN n) = true → PyData.canLayAll0 (pds xs) = true ∧ PyData.depthAll (pds xs) ≤ n
  | n, [], _ => by simp [pds, PyData.canLayAll0, PyData.depthAll]
  | n, x :: xs, e => by
    rw [List.all_cons, Bool.and_eq_true] at e
    have h1 := canLay_pd n x e.1
    have h2 := canLays_pd n xs e.2
    simp only [pds, PyData.canLayAll0, PyData.depthAll, Bool.and_eq_true]
    exact ⟨⟨h1.1, h2.1⟩, by omega⟩
end
theorem shaped_pd {d : D} {n : Nat} (h : okN n d = true) (hn : n ≤ 64) : SeqAt.shaped (pd d) = true := by
  have q := canLay_pd n d h
  show ((pd d).canLay0 && decide ((pd d).depth ≤ 64)) = true
  rw [q.1, Bool.true_and]
  exact decide_eq_true (by omega)
mutual
theorem eqv_pd : ∀ (n : Nat) (d e : D), okN n d = true → okN n e = true → D.eqv d e = PyData.eqv (pd d) (pd e)
  | n, .non, e, _, he => by cases e <;> first | (simp [pd, D.eqv, PyData.eqv]; done) | (cases n <;> cases he)
  | n, .bl b, e, _, he => by cases e <;> first | (simp [pd, D.eqv, PyData.eqv]; done) | (cases n <;> cases he)
  | n, .int b, e, _, he => by cases e <;> first | (simp [pd, D.eqv, PyData.eqv]; done) | (cases n <;> cases he)
  | n, .str b, e, _, he => by cases e <;> first | (simp [pd, D.eqv, PyData.eqv]; done) | (cases n <;> cases he)
  | 0, .tup xs, e, hd, _ => by cases hd
  | n + 1, .tup xs, e, hd, he => by
    cases e with
    | tup ys =>
      have := eqvs_pd n xs ys hd he
      simp only [pd, D.eqv, PyData.eqv]; exact this
    | dct _ _ => cases he
    | gdc _ => cases he
    | gtp _ => cases he
    | ins _ => cases he
    | exc _ _ => cases he
    | nst _ => cases he
    | ndc _ => cases he
    | obj _ _ => cases he
    | _ => simp [pd, D.eqv, PyData.eqv]
  | 0, .lst xs, e, hd, _ => by cases hd
  | n + 1, .lst xs, e, hd, he => by
    cases e with
    | lst ys =>
      have := eqvs_pd n xs ys hd he
      simp only [pd, D.eqv, PyData.eqv]; exact this
    | dct _ _ => cases he
    | gdc _ => cases he
    | gtp _ => cases he
    | ins _ => cases he
    | exc _ _ => cases he
    | nst _ => cases he
    | ndc _ => cases he
    | obj _ _ => cases he
    | _ => simp [pd, D.eqv, PyData.eqv]
  | n, .dct _ _, _, h, _ => by cases n <;> cases h
  | n, .gdc _, _, h, _ => by cases n <;> cases h
  | n, .gtp _, _, h, _ => by cases n <;> cases h
  | n, .ins _, _, h, _ => by cases n <;> cases h
  | n, .exc _ _, _, h, _ => by cases n <;> cases h
  | n, .nst _, _, h, _ => by cases n <;> cases h
  | n, .ndc _, _, h, _ => by cases n <;> cases h
  | n, .obj _ _, _, h, _ => by cases n <;> cases h
theorem eqvs_pd : ∀ (n : Nat) (xs ys : List D), xs.all (okN n) = true → ys.all (okN n) = true → D.eqvs xs ys = PyData.eqvAll (pds xs) (pds ys)
  | n, [], ys, _, _ => by cases ys <;> simp [pds, D.eqvs, PyData.eqvAll]
  | n, x :: xs, [], _, _ => by simp [pds, D.eqvs, PyData.eqvAll]
  | n, x :: xs, y :: ys, hd, he => by
    rw [List.all_cons, Bool.and_eq_true] at hd he
    simp only [pds, D.eqvs, PyData.eqvAll, eqv_pd n x y hd.1 he.1, eqvs_pd n xs ys hd.2 he.2]
end
end PV
namespace PV
open PySem PySem.Spec PyProof.Rows L2

/-! ### dicts whose keys are tuples, nested -/
mutual
theorem eqv_nk : ∀ (n m : Nat) (a b : D), okKN n a = true → okKN m b = true → D.eqv a b = NestedKey.beq (nk a) (nk b)
  | n, m, .int i, b, _, hb => by
    cases b with
    | tup ys => simp [nk, D.eqv, NestedKey.beq]
    | int j => simp only [nk, D.eqv, NestedKey.beq]; rw [Bool.eq_iff_iff, beq_iff_eq, decide_eq_true_eq]
    | str j => simp only [nk, D.eqv, NestedKey.beq]
    | non => cases m <;> cases hb
    | bl _ => cases m <;> cases hb
    | lst _ => cases m <;> cases hb
    | dct _ _ => cases m <;> cases hb
    | gdc _ => cases m <;> cases hb
    | gtp _ => cases m <;> cases hb
    | ins _ => cases m <;> cases hb
    | exc _ _ => cases m <;> cases hb
    | nst _ => cases m <;> cases hb
    | ndc _ => cases m <;> cases hb
    | obj _ _ => cases m <;> cases hb
  | n, m, .str i, b, _, hb => by
    cases b with
    | tup ys => simp [nk, D.eqv, NestedKey.beq]
    | int j => simp only [nk, D.eqv, NestedKey.beq]
    | str j => simp only [nk, D.eqv, NestedKey.beq]; rw [Bool.eq_iff_iff, beq_iff_eq, decide_eq_true_eq]
    | non => cases m <;> cases hb
    | bl _ => cases m <;> cases hb
    | lst _ => cases m <;> cases hb
    | dct _ _ => cases m <;> cases hb
    | gdc _ => cases m <;> cases hb
    | gtp _ => cases m <;> cases hb
    | ins _ => cases m <;> cases hb
    | exc _ _ => cases m <;> cases hb
    | nst _ => cases m <;> cases hb
    | ndc _ => cases m <;> cases hb
    | obj _ _ => cases m <;> cases hb
  | n + 1, m, .tup xs, b, ha, hb => by
    cases b with
    | tup ys =>
      cases m with
      | zero => cases hb
      | succ m => simp only [nk, D.eqv, NestedKey.beq]; exact eqvs_nk n m xs ys ha hb
    | int i => simp [nk, D.eqv, NestedKey.beq]
    | str i => simp [nk, D.eqv, NestedKey.beq]
    | non => cases m <;> cases hb
    | bl _ => cases m <;> cases hb
    | lst _ => cases m <;> cases hb
    | dct _ _ => cases m <;> cases hb
    | gdc _ => cases m <;> cases hb
    | gtp _ => cases m <;> cases hb
    | ins _ => cases m <;> cases hb
    | exc _ _ => cases m <;> cases hb
    | nst _ => cases m <;> cases hb
    | ndc _ => cases m <;> cases hb
    | obj _ _ => cases m <;> cases hb
  | 0, m, .tup xs, b, ha, _ => by cases ha
  | n, m, .non, b, ha, _ => by cases n <;> cases ha
  | n, m, .bl _, b, ha, _ => by cases n <;> cases ha
  | n, m, .lst _, b, ha, _ => by cases n <;> cases ha
  | n, m, .dct _ _, b, ha, _ => by cases n <;> cases ha
  | n, m, .gdc _, b, ha, _ => by cases n <;> cases ha
  | n, m, .gtp _, b, ha, _ => by cases n <;> cases ha
  | n, m, .ins _, b, ha, _ => by cases n <;> cases ha
  | n, m, .exc _ _, b, ha, _ => by cases n <;> cases ha
  | n, m, .nst _, b, ha, _ => by cases n <;> cases ha
  | n, m, .ndc _, b, ha, _ => by cases n <;> cases ha
  | n, m, .obj _ _, b, ha, _ => by cases n <;> cases ha
theorem eqvs_nk : ∀ (n m : Nat) (a b : List D), a.all (okKN n) = true → b.all (okKN m) = true → D.eqvs a b = NestedKey.beqAll (nks a) (nks b)
  | n, m, [], [], _, _ => by simp [nks, D.eqvs, NestedKey.beqAll]
  | n, m, [], _ :: _, _, _ => by simp [nks, D.eqvs, NestedKey.beqAll]
  | n, m, _ :: _, [], _, _ => by simp [nks, D.eqvs, NestedKey.beqAll]
  | n, m, x :: xs, y :: ys, ha, hb => by
    rw [List.all_cons, Bool.and_eq_true] at ha hb
    simp only [nks, D.eqvs, NestedKey.beqAll, eqv_nk n m x y ha.1 hb.1, eqvs_nk n m xs ys ha.2 hb.2]
end
theorem isKT_ok {k : D} (h : isKT k = true) : okKN 8 k = true := by
  cases k <;> first | exact h | cases h
theorem eqv_kt {a b : D} (ha : isKT a = true) (hb : isKT b = true) : D.eqv a b = decide (nk a = nk b) := by
  rw [NestedKey.decide_eq]; exact eqv_nk 8 8 a b (isKT_ok ha) (isKT_ok hb)
mutual
theorem nk_depth : ∀ (n : Nat) (d : D), okKN n d = true → (nk d).depth ≤ n
  | n, .int i, _ => by simp [nk, NestedKey.depth]
  | n, .str i, _ => by simp [nk, NestedKey.depth]
  | n + 1, .tup xs, h => by
    have := nks_depth n xs h
    simp only [nk, NestedKey.depth]; omega
  | 0, .tup xs, h => by cases h
  | n, .non, ha => by cases n <;> cases ha
  | n, .bl _, ha => by cases n <;> cases ha
  | n, .lst _, ha => by cases n <;> cases ha
  | n, .dct _ _, ha => by cases n <;> cases ha
  | n, .gdc _, ha => by cases n <;> cases ha
  | n, .gtp _, ha => by cases n <;> cases ha
  | n, .ins _, ha => by cases n <;> cases ha
  | n, .exc _ _, ha => by cases n <;> cases ha
  | n, .nst _, ha => by cases n <;> cases ha
  | n, .ndc _, ha => by cases n <;> cases ha
  | n, .obj _ _, ha => by cases n <;> cases ha
theorem nks_depth : ∀ (n : Nat) (d : List D), d.all (okKN n) = true → NestedKey.depthAll (nks d) ≤ n
  | n, [], _ => by simp [nks, NestedKey.depthAll]
  | n, x :: xs, h => by
    rw [List.all_cons, Bool.and_eq_true] at h
    have h1 := nk_depth n x h.1
    have h2 := nks_depth n xs h.2
    simp only [nks, NestedKey.depthAll]; omega
end
section
variable {G : Wd} {O : Addr → Prop} {H : Hp}
theorem RepsT.length : ∀ {xs : List NE} {ds : List (D × D)}, RepsT G O H xs ds → xs.length = ds.length
  | _, _, .nil => rfl
  | _, _, .cons _ _ _ _ _ r => by simp [RepsT.length r]
theorem RepsT.find : ∀ {xs : List NE} {ds : List (D × D)} {k : D}, isKT k = true → RepsT G O H xs ds → (atKey xs (nk k) = none ∧ dFind ds k = none) ∨ ∃ p v d, atKey xs (nk k) = some p ∧ RelV v p.2 ∧ dFind ds k = some d ∧ Rep G O H v d
  | _, _, k, hk, .nil => .inl ⟨rfl, rfl⟩
  | _, _, k, hk, .cons (x := x) (v := v) (xs := xs) (k := k') (d := d) (ds := ds) e1 e2 rk rv h r => by
    have q := eqv_kt e2 hk
    by_cases e : nk k' = nk k
    · rw [decide_eq_true e] at q
      exact .inr ⟨x.2, v, d, by simp [atKey, e1, e], rv, by unfold dFind; rw [List.find?_cons, q]; rfl, h⟩
    · rw [decide_eq_false e] at q
      have a1 : atKey (x :: xs) (nk k) = atKey xs (nk k) := by simp [atKey, List.find?_cons, e1, e]
      have a2 : dFind ((k', d) :: ds) k = dFind ds k := by unfold dFind; rw [List.find?_cons, q]
      rw [a1, a2]
      exact RepsT.find hk r
theorem RepsT.any : ∀ {xs : List NE} {ds : List (D × D)} {k : D}, isKT k = true → RepsT G O H xs ds → (ds.any fun p => D.eqv p.1 k) = (atKey xs (nk k)).isSome
  | _, _, k, hk, .nil => rfl
  | _, _, k, hk, .cons (x := x) (v := v) (xs := xs) (k := k') (d := d) (ds := ds) e1 e2 rk rv h r => by
    have q := eqv_kt e2 hk
    have ih := RepsT.any hk r
    rw [List.any_cons, q]
    by_cases e : nk k' = nk k
    · rw [decide_eq_true e]; simp [atKey, e1, e]
    · have a1 : atKey (x :: xs) (nk k) = atKey xs (nk k) := by simp [atKey, List.find?_cons, e1, e]
      rw [decide_eq_false e, a1, ih]; rfl
theorem RepsT.repl {k : D} {v : V} {d : D} {r : Value} (hk : isKT k = true) (rv : RelV v r) (h : Rep G O H v d) : ∀ {xs : List NE} {ds : List (D × D)}, RepsT G O H xs ds →
    RepsT G O H (xs.map (putAt (nk k) r)) (ds.map fun p => if D.eqv p.1 k = true then (p.1, d) else p)
  | _, _, .nil => .nil
  | _, _, .cons (x := x) (k := k') e1 e2 rk rv' h' q => by
    have w := eqv_kt e2 hk
    rw [List.map_cons, List.map_cons, w]
    by_cases e : nk k' = nk k
    · rw [if_pos (decide_eq_true e), putAt, if_pos (e1.trans e)]
      exact .cons e1 e2 rk rv h (RepsT.repl hk rv h q)
    · rw [if_neg (by simp [e]), putAt, if_neg (fun z => e (e1.symm.trans z))]
      exact .cons e1 e2 rk rv' h' (RepsT.repl hk rv h q)
theorem RepsT.append : ∀ {xs : List NE} {ds : List (D × D)} {ys : List NE} {es : List (D × D)}, RepsT G O H xs ds → RepsT G O H ys es → RepsT G O H (xs ++ ys) (ds ++ es)
  | _, _, _, _, .nil, r => r
  | _, _, _, _, .cons a b c d e q, r => .cons a b c d e (RepsT.append q r)
theorem RepsT.put {k : D} {v : V} {d : D} {r : Value} {b : Addr} {xs : List NE} {ds : List (D × D)} (hk : isKT k = true) (rk : Rep G O H (.ref b) k) (rv : RelV v r) (h : Rep G O H v d) (q : RepsT G O H xs ds) :
    RepsT G O H (storedH xs (nk k) b r) (dPut ds k d) := by
  unfold storedH dPut
  rw [q.any hk]
  split
  · exact q.repl hk rv h
  · exact q.append (.cons rfl hk rk rv h .nil)
theorem RepB.dctN {v : V} {ds : List (D × D)} (h : RepB G O H v (.dct true ds)) : ∃ p xs, v = .ref p ∧ H p = some (DNo G.w p xs) ∧ RepsT G O H xs ds := by
  rcases h with h | ⟨p, F, rfl, f, h⟩
  · cases h with
    | dT e n r => exact ⟨_, _, rfl, e, r⟩
  · obtain ⟨xs, hp, r⟩ := h.dctT
    exact ⟨p, xs, rfl, hp, r⟩
theorem isKT_ref {v : V} {k : D} (hk : isKT k = true) (h : RepB G O H v k) : ∃ b, v = .ref b ∧ Rep G O H (.ref b) k := by
  cases k <;> try (cases hk; done)
  obtain ⟨p, xs, rfl, _⟩ := h.tup
  exact ⟨p, rfl, h.rep rfl⟩
end
section
variable {X : Cx} {pins : List (Addr × Obj)} {σ : L2.St} {H : Hp} {s : Shared} {G : Wd} {O : Addr → Prop}
mutual
theorem rep_nk (I : Inv X pins σ H s) (hK : G.K = X.K) : ∀ {n : Nat} {v : V} {d : D} {u : Value}, Rep G O H v d → okKN n d = true → RelV v u → NestedIs s.heap (nk d) u
  | n, _, _, u, .int i, _, rv => by
    obtain ⟨t, rfl⟩ := rv
    rw [nk]; exact .int _ _
  | n, _, _, u, .str i, _, rv => by
    obtain ⟨t, rfl⟩ := rv
    rw [nk]; exact .text _ _
  | n + 1, _, _, u, .tupH r nn h, e, rv => by
    obtain rfl : u = .ref _ := rv
    obtain ⟨its, rr, ⟨o, h1, h2, m, h3⟩, _⟩ := I.tuple (.inl r)
    rw [nk]
    exact .tup h1 h2 h3 (by simpa using reps_nk I hK h e rr)
  | n + 1, _, _, u, .tupK r h, e, rv => by
    obtain rfl : u = .ref _ := rv
    obtain ⟨its, rr, ⟨o, h1, h2, m, h3⟩, _⟩ := I.tuple (hK ▸ r H)
    rw [nk]
    exact .tup h1 h2 h3 (by simpa using reps_nk I hK h e rr)
  | 0, _, _, u, .tupH _ _ _, e, _ => by cases e
  | 0, _, _, u, .tupK _ _, e, _ => by cases e
  | n, _, _, u, .non, e, _ => by cases n <;> cases e
  | n, _, _, u, .bl _, e, _ => by cases n <;> cases e
  | n, _, _, u, .lst _ _ _, e, _ => by cases n <;> cases e
  | n, _, _, u, .lstK _ _, e, _ => by cases n <;> cases e
  | n, _, _, u, .dK _ _ _, e, _ => by cases n <;> cases e
  | n, _, _, u, .dT _ _ _, e, _ => by cases n <;> cases e
  | n, _, _, u, .dG _ _, e, _ => by cases n <;> cases e
  | n, _, _, u, .gT _ _ _, e, _ => by cases n <;> cases e
  | n, _, _, u, .ins _ _, e, _ => by cases n <;> cases e
  | n, _, _, u, .exc _ _ _ _ _, e, _ => by cases n <;> cases e
  | n, _, _, u, .nst _, e, _ => by cases n <;> cases e
  | n, _, _, u, .ndc _, e, _ => by cases n <;> cases e
  | n, _, _, u, .obj, e, _ => by cases n <;> cases e
theorem reps_nk (I : Inv X pins σ H s) (hK : G.K = X.K) : ∀ {n : Nat} {vs : List V} {ds : List D} {us : List Value}, Reps G O H vs ds → ds.all (okKN n) = true → Vals vs us → NestedAll s.heap (nks ds) us
  | _, _, _, _, .nil, _, rv => by cases rv; rw [nks]; exact .nil
  | n, _, _, _, .cons h r, e, rv => by
    cases rv with
    | cons q qs =>
      rw [List.all_cons, Bool.and_eq_true] at e
      rw [nks]
      exact .cons (rep_nk I hK h e.1 q) (reps_nk I hK r e.2 qs)
end
theorem key_is (I : Inv X pins σ H s) (hK : G.K = X.K) {b : Addr} {k : D} (h : Rep G O H (.ref b) k) (hk : isKT k = true) : (nestedKind X.prog X.w).is s.heap (nk k) b :=
  ⟨rep_nk I hK h (isKT_ok hk) rfl, nk_depth 8 k (isKT_ok hk)⟩
theorem repsT_is (I : Inv X pins σ H s) (hK : G.K = X.K) : ∀ {xs : List NE} {ds : List (D × D)}, RepsT G O H xs ds → ∀ x ∈ xs, (nestedKind X.prog X.w).is s.heap x.1 x.2.1
  | _, _, .nil, _, h => nomatch h
  | _, _, .cons e1 e2 rk _ _ r, x, hx => by
    rcases List.mem_cons.mp hx with rfl | hx
    · rw [e1]; exact key_is I hK rk e2
    · exact repsT_is I hK r x hx
theorem dn_of (I : Inv X pins σ H s) (hK : G.K = X.K) (hw : G.w = X.w) {p : Addr} {xs : List NE} {ds : List (D × D)} (e : H p = some (DNo G.w p xs)) (r : RepsT G O H xs ds) :
    s.heap.DictOfH (nestedKind X.prog X.w) p xs ∧ (p == sysModules) = false ∧ xs.length ≤ sizeLine := by
  have q := I.hok p _ e
  obtain ⟨⟨h1, h2, h3, o, es, ep, h4, h5, h6, h7⟩, _, _⟩ := q
  refine ⟨⟨o, es, ep, h4, h5, h6, ?_, repsT_is I hK r, h3⟩, h1, h2⟩
  rw [hw] at h7
  exact h7
theorem dn_new {P : Program} {w : World} {H' : Hp} {h' : Heap} {p : Addr} {xs : List NE} (z : xs.length ≤ sizeLine) (hd : (p == sysModules) = false) (dd : h'.DictOfH (nestedKind P w) p xs) : ObjOk P w H' h' p (DNo w p xs) := by
  obtain ⟨o, es, ep, h4, h5, h6, h7, _, h9⟩ := dd
  refine ⟨⟨hd, z, h9, o, es, ep, h4, h5, h6, h7⟩, ⟨o, h4⟩, fun h1 h2 q k => ?_⟩
  obtain ⟨a1, a2, a3, o', es', ep', a4, a5⟩ := q
  exact ⟨a1, a2, a3, o', es', ep', k _ a4, a5⟩
theorem nroom {A : Around} (hu : A.units + 65 < cLine) : (nestedKind X.prog X.w).room A.in1 := by
  show A.in1.units + 8 < cLine
  rw [Around.in1_units]; omega
theorem storedH_len (xs : List NE) (k : NestedKey) (b : Addr) (r : Value) : (storedH xs k b r).length ≤ xs.length + 1 := by
  unfold storedH
  split <;> simp
variable {A : Around} {E : Value → Shared → Prop} {p : Addr} {xs : List NE} {ds : List (D × D)} {k : D} {b : Addr}
theorem n_getItem {Q : Value → Shared → Prop} (hu : A.units + 65 < cLine) (I : Inv X pins σ H s) (hK : G.K = X.K) (hw : G.w = X.w) (e : H p = some (DNo G.w p xs)) (r : RepsT G O H xs ds) (hk : isKT k = true) (rk : Rep G O H (.ref b) k) {q : Addr × Value} (hq : atKey xs (nk k) = some q)
    (h : ∀ s', Inv X pins σ H s' → Q q.2 s') : wpAny (model X.prog X.w) A (getItem (.ref p) (.ref b)) Q E s := by
  obtain ⟨dd, hd, z⟩ := dn_of I hK hw e r
  exact wpAny_getItem_heap (nroom hu) (key_is I hK rk hk) dd hq (h _ (I.tok _))
theorem n_in {Q : Value → Shared → Prop} (hu : A.units + 65 < cLine) (I : Inv X pins σ H s) (hK : G.K = X.K) (hw : G.w = X.w) (e : H p = some (DNo G.w p xs)) (r : RepsT G O H xs ds) (hk : isKT k = true) (rk : Rep G O H (.ref b) k)
    (h : ∀ s', Inv X pins σ H s' → Q (.bool (atKey xs (nk k)).isSome) s') : wpAny (model X.prog X.w) A (compareOp .In (.ref b) (.ref p)) Q E s := by
  obtain ⟨dd, hd, z⟩ := dn_of I hK hw e r
  exact wpAny_in_heap (nroom hu) (key_is I hK rk hk) hd dd (h _ (I.tok _))
theorem n_notIn {Q : Value → Shared → Prop} (hu : A.units + 65 < cLine) (I : Inv X pins σ H s) (hK : G.K = X.K) (hw : G.w = X.w) (e : H p = some (DNo G.w p xs)) (r : RepsT G O H xs ds) (hk : isKT k = true) (rk : Rep G O H (.ref b) k)
    (h : ∀ s', Inv X pins σ H s' → Q (.bool (!(atKey xs (nk k)).isSome)) s') : wpAny (model X.prog X.w) A (compareOp .NotIn (.ref b) (.ref p)) Q E s := by
  obtain ⟨dd, hd, z⟩ := dn_of I hK hw e r
  exact wpAny_notIn_heap (nroom hu) (key_is I hK rk hk) hd dd (h _ (I.tok _))
theorem n_get2 {Q : Value → Shared → Prop} {x : Value} (hu : A.units + 65 < cLine) (I : Inv X pins σ H s) (hK : G.K = X.K) (hw : G.w = X.w) (e : H p = some (DNo G.w p xs)) (r : RepsT G O H xs ds) (hk : isKT k = true) (rk : Rep G O H (.ref b) k)
    (h : ∀ s', Inv X pins σ H s' → Q (((atKey xs (nk k)).map (·.2)).getD x) s') : wpAny (model X.prog X.w) A (call (.builtin "dict.get") [.ref p, .ref b, x]) Q E s := by
  obtain ⟨dd, hd, z⟩ := dn_of I hK hw e r
  exact call_meetsIn PySem.F.slot_dict_get dd.typeIs PySem.F.entry_dict_get (PySem.F.args_dict_get_3 _ _ _) (meetsH_dict_get_default (nestedKind X.prog X.w) p b hd x) ⟨nroom hu, nk k, xs, key_is I hK rk hk, dd, h _ (I.tok _)⟩
theorem n_get1 {Q : Value → Shared → Prop} (hu : A.units + 65 < cLine) (I : Inv X pins σ H s) (hK : G.K = X.K) (hw : G.w = X.w) (e : H p = some (DNo G.w p xs)) (r : RepsT G O H xs ds) (hk : isKT k = true) (rk : Rep G O H (.ref b) k)
    (h : ∀ s', Inv X pins σ H s' → Q (((atKey xs (nk k)).map (·.2)).getD .none) s') : wpAny (model X.prog X.w) A (call (.builtin "dict.get") [.ref p, .ref b]) Q E s := by
  obtain ⟨dd, hd, z⟩ := dn_of I hK hw e r
  exact call_meetsIn PySem.F.slot_dict_get dd.typeIs PySem.F.entry_dict_get (PySem.F.args_dict_get_2 _ _) (meetsH_dict_get (nestedKind X.prog X.w) p b hd) ⟨nroom hu, nk k, xs, key_is I hK rk hk, dd, h _ (I.tok _)⟩
theorem n_setItem {Q : Unit → Shared → Prop} {x : Value} (hu : A.units + 65 < cLine) (I : Inv X pins σ H s) (hK : G.K = X.K) (hw : G.w = X.w) (e : H p = some (DNo G.w p xs)) (r : RepsT G O H xs ds) (hk : isKT k = true) (rk : Rep G O H (.ref b) k) (hl : xs.length < sizeLine)
    (h : ∀ s', Inv X pins σ (upd H p (DNo G.w p (storedH xs (nk k) b x))) s' → Q () s') : wpAny (model X.prog X.w) A (setItem (.ref p) (.ref b) x) Q E s := by
  obtain ⟨dd, hd, z⟩ := dn_of I hK hw e r
  refine wpAny_setItem_heap (hsz := z) (nroom hu) (key_is I hK rk hk) dd fun h' dd' hs => h _ ?_
  have he : ∃ q, h'.get? p = some q := let ⟨q, _, _, hq, _⟩ := dd'; ⟨q, hq⟩
  rw [hw]
  exact d_write I (by rw [e]; exact True.intro) hs he (dn_new (by have := storedH_len xs (nk k) b x; omega) hd dd')
theorem n_setdefault {Q : Value → Shared → Prop} {x : Value} (hu : A.units + 65 < cLine) (I : Inv X pins σ H s) (hK : G.K = X.K) (hw : G.w = X.w) (e : H p = some (DNo G.w p xs)) (r : RepsT G O H xs ds) (hk : isKT k = true) (rk : Rep G O H (.ref b) k) (hl : xs.length < sizeLine)
    (h1 : ∀ q, atKey xs (nk k) = some q → ∀ s', Inv X pins σ H s' → Q q.2 s')
    (h2 : atKey xs (nk k) = none → ∀ s', Inv X pins σ (upd H p (DNo G.w p (storedH xs (nk k) b x))) s' → Q x s') : wpAny (model X.prog X.w) A (call (.builtin "dict.setdefault") [.ref p, .ref b, x]) Q E s := by
  obtain ⟨dd, hd, z⟩ := dn_of I hK hw e r
  refine call_setdefault_heap (hsz := z) (nroom hu) (key_is I hK rk hk) hd dd (fun q hq => h1 q hq _ (I.tok _)) fun hn h' dd' hs => h2 hn _ ?_
  have he : ∃ q, h'.get? p = some q := let ⟨q, _, _, hq, _⟩ := dd'; ⟨q, hq⟩
  rw [hw]
  exact d_write I (by rw [e]; exact True.intro) hs he (dn_new (by have := storedH_len xs (nk k) b x; omega) hd dd')
/-- {} -/
theorem n_new {Q : Value → Shared → Prop} (I : Inv X pins σ H s) {E0 : PySem.Env} {pos : Pos} (h : ∀ q s', H q = none → Inv X pins σ (upd H q (DNo X.w q [])) s' → Q (.ref q) s') : wpAny (model X.prog X.w) A (eval (.Dict [] [] pos) E0) Q E s :=
  wpAny_Dict_empty (h _ _ (I.hok.fresh (Nat.le_refl _)) (I.laid (a := s.heap.objs.size) (o := DNo X.w s.heap.objs.size []) (t' := s.toks) (fun _ _ q => Heap.get?_push_of_some _ q) (Nat.le_refl _)
    (dn_new (P := X.prog) (Nat.zero_le _) (beq_eq_false_iff_ne.mpr (Ne.symm (Nat.ne_of_lt I.big))) (Heap.DictOfH.new (knd := nestedKind X.prog X.w) s.heap))))
end
end PV
set_option maxHeartbeats 4000000
namespace PV
open PySem PySem.Spec PyProof.Rows L2

/-! ### sorted(set(xs)), xs a list of whole numbers -/
section
variable {P : Program} {w : World} {A : Around} {E : Value → Shared → Prop} {s : Shared}
/-- an empty set as it is laid -/
abbrev mtS (w : World) : Obj := { cls := .type "set", dict := none, data := .set #[] 0 (.fresh 0 0 (!w.params.followText "set-order")) }
/-- the heap, the set laid -/
abbrev hS (w : World) (s : Shared) : Heap := s.heap.push (mtS w)
abbrev Fin (w : World) (s : Shared) (ns : List Int) (h' : Heap) (c : Nat) : Prop := SetR w h' s.heap.objs.size (fun j => decide (j ∈ ns)) c ∧ c ≤ ns.length ∧ ∀ b o, s.heap.get? b = some o → h'.get? b = some o
theorem laidS : (hS w s).get? s.heap.objs.size = some (mtS w) := Heap.get?_push_size _ rfl
/-- the numbers put in, one by one -/
theorem putInts {l : Addr} {items : Array Value} {ns : List Int} (B : Around) (hB : B.in1.handled = none) (hl : (hS w s).IsList l items) (lt : l < s.heap.objs.size) (hit : IntsAre items.toList ns) (hb : ns.length + 1 < scanBound) {R : Result → Shared → Prop}
    (hR : ∀ h' tk c, Fin w s ns h' c → R (.ok (.ret .none)) { s with heap := h', toks := tk }) :
    codeAny (model P w) B (.builtin "set.update.loop" ⟨[.ref s.heap.objs.size, .ref (hS w s).objs.size], []⟩) R { s with heap := (hS w s).push { cls := .type "list_iterator", data := .fields #[.ref l, .int 0 0] } } := by
  have sz : (hS w s).objs.size = s.heap.objs.size + 1 := Heap.size_push ..
  have n1 : l ≠ (hS w s).objs.size := fun z => absurd (z.trans sz) (Nat.ne_of_lt (Nat.lt_succ_of_lt lt))
  have n2 : s.heap.objs.size ∉ [(hS w s).objs.size, l] := fun z => by
    rcases List.mem_cons.mp z with z | z
    · exact absurd (z.trans sz) (Nat.ne_of_lt (Nat.lt_succ_self _))
    · exact absurd (List.mem_singleton.mp z) (Nat.ne_of_gt lt)
  have num : items.size = ns.length := by
    have q := IntsAre.length hit
    rwa [Array.length_toList] at q
  refine set_update_ints ((Walks.list hB (hS w s).objs.size l n1 items).toS) s.heap.objs.size n2 ns num hb (fun i v hv => ?_) (items.size - 0) 0 _ (by omega) (Nat.zero_le _) ⟨⟨_, Heap.get?_push_size _ rfl, rfl, rfl⟩, hl.push _⟩ ⟨0, Nat.le_refl 0, setR_new_at (Heap.get?_push_of_some _ laidS)⟩ fun s' c hm hc hS' => ?_
  · have hi : i < ns.length := by rw [← num]; exact (Array.getElem?_eq_some_iff.mp hv).1
    obtain ⟨t, e⟩ := PyProof.Rows.IntsAre.int_at hit i v (by rw [Array.getElem?_toList]; exact hv)
    exact ⟨ns[i], t, List.getElem?_eq_getElem hi, by rw [e, List.getD_eq_getElem?_getD, List.getElem?_eq_getElem hi]; rfl⟩
  · obtain ⟨h', g2, d', tk', os'⟩ := s'
    obtain rfl : g2 = s.gens := hm.gens
    obtain rfl : d' = s.drawn := hm.drawn
    obtain rfl : os' = s.os := hm.os
    rw [num] at hc
    refine hR h' tk' c ⟨hS', hc, fun b o e => hm.heap b o (fun z => ?_) (Heap.get?_push_of_some _ (Heap.get?_push_of_some _ e))⟩
    have hb0 := Heap.lt_size e
    rcases List.mem_cons.mp z with z | z
    · exact absurd z (Nat.ne_of_lt hb0)
    · exact absurd ((List.mem_singleton.mp z).trans sz) (Nat.ne_of_lt (Nat.lt_succ_of_lt hb0))
/-- set(xs) -/
theorem call_setL {l : Addr} {items : Array Value} {ns : List Int} {Q : Value → Shared → Prop} (hh : A.handled = none) (hl : s.heap.IsList l items) (hit : IntsAre items.toList ns) (hb : ns.length + 1 < scanBound)
    (h : ∀ h' tk c, Fin w s ns h' c → Q (.ref s.heap.objs.size) { s with heap := h', toks := tk }) : wpAny (model P w) A (call (.type "set") [.ref l]) Q E s := by
  obtain ⟨_, _, hm⟩ := F.called_set.mro
  have q1 := F.called_set.made
  have q2 := F.called_set.sub
  have q3 := F.called_set.notType
  have q4 := F.called_set.canCreate
  have q5 := F.typeCall_set_1 (.ref l)
  refine wpAny_call (codeAny_of_tree (show wpAny _ _ (callAny (.type "set") _) _ _ _ from ?_))
  refine wpAny_pure ⟨Code.quiet_builtin _ (by decide +kernel), codeAny_builtin F.entry_type_call ?_⟩
  rw [Around.under_plain (weight_type_call_type "set" [.ref l] []) rfl]
  repeat (any_goals (first | assumption | wp_step))
  refine codeAny_mono (code_set_led1 (.ref l) (E := E) (Q₁ := fun o s1 => o = .ref s.heap.objs.size ∧ s1 = { s with heap := hS w s }) ⟨rfl, rfl⟩) fun r1 s1 hr => ?_
  rcases r1 with e | f
  · exact hr
  · cases f with
    | ret o =>
      obtain ⟨rfl, rfl⟩ := hr
      have ty : Shared.TypeIs { s with heap := hS w s } (.ref s.heap.objs.size) "set" := ⟨_, laidS, rfl⟩
      have u1 := F.called_set.init.lookup
      have u2 := F.called_set.init.bind (.ref s.heap.objs.size)
      repeat (any_goals (first | assumption | wp_step))
      refine codeAny_mono (codeAny_call_builtin (R := wants (fun v s2 => v = .none ∧ ∃ h' tk c, s2 = { s with heap := h', toks := tk } ∧ Fin w s ns h' c) E) F.called_set.init.plain F.entry_set_init (check_set_init_1 ty ?_)) fun r2 s2 hr2 => ?_
      · have lt : l < s.heap.objs.size := let ⟨_, e, _⟩ := hl; Heap.lt_size e
        have hl1 : (hS w s).IsList l items := hl.push _
        obtain ⟨⟨oc, od, dt, sl⟩, h1, h2, n, h3⟩ := hl
        obtain rfl : oc = .type "list" := h2
        obtain rfl : dt = .seq items n := h3
        have h1' : (hS w s).get? l = some { cls := .type "list", dict := od, data := .seq items n, slots := sl } := Heap.get?_push_of_some _ h1
        have v1 := F.sub_list_set
        have v2 := F.sub_list_frozenset
        have v3 : (Value.type "list" == Value.type "dict") = false := by decide
        unfold Builtin.«set.__init__» noKeywords Builtin.Frozenset.updateFrom
        generalize hPI : pyIter = PI
        wp_walk
        subst hPI
        refine wpAny_pyIter_list hl1 (wpAny_bind (wpAny_runValue (putInts _ (by simp [hh]) hl1 lt hit hb fun h' tk c k => ?_)))
        show wpAny _ _ _ _ _ _
        refine wpAny_pure ?_
        show wpAny _ _ (ret Value.none) _ _ _
        exact wpAny_pure ⟨rfl, h', tk, c, rfl, k⟩
      · rcases r2 with e | f
        · exact hr2
        · cases f with
          | ret v =>
            obtain ⟨rfl, h', tk, c, rfl, k⟩ := hr2
            repeat (any_goals (first | assumption | wp_step))
            exact h _ _ _ k
          | _ => exact hr2.elim
    | _ => exact hr.elim
end
theorem insU_mem {x k : Int} : ∀ {l : List Int}, k ∈ insU x l ↔ k = x ∨ k ∈ l
  | [] => by simp [insU]
  | y :: l => by
    unfold insU
    split
    · simp
    · split
      · rename_i e
        subst e
        constructor
        · exact fun h => .inr h
        · rintro (rfl | h)
          · exact List.mem_cons_self
          · exact h
      · rw [List.mem_cons, insU_mem (l := l), List.mem_cons]
        constructor
        · rintro (h | h | h)
          · exact .inr (.inl h)
          · exact .inl h
          · exact .inr (.inr h)
        · rintro (h | h | h)
          · exact .inr (.inl h)
          · exact .inl h
          · exact .inr (.inr h)
theorem insU_up {x : Int} : ∀ {l : List Int}, l.Pairwise (· < ·) → (insU x l).Pairwise (· < ·)
  | [], _ => by simp [insU]
  | y :: l, h => by
    obtain ⟨h1, h2⟩ := List.pairwise_cons.mp h
    unfold insU
    split
    · rename_i c
      refine List.pairwise_cons.mpr ⟨fun z hz => ?_, h⟩
      rcases List.mem_cons.mp hz with rfl | hz
      · exact c
      · have := h1 z hz; omega
    · split
      · exact h
      · refine List.pairwise_cons.mpr ⟨fun z hz => ?_, insU_up h2⟩
        rcases insU_mem.mp hz with rfl | hz
        · omega
        · exact h1 z hz
theorem dset_mem {k : Int} : ∀ {ns : List Int}, k ∈ dset ns ↔ k ∈ ns
  | [] => by simp [dset]
  | x :: ns => by
    show k ∈ insU x (dset ns) ↔ _
    rw [insU_mem, dset_mem (ns := ns), List.mem_cons]
theorem dset_up : ∀ (ns : List Int), (dset ns).Pairwise (· < ·)
  | [] => by simp [dset]
  | x :: ns => insU_up (dset_up ns)
theorem up_uniq : ∀ {a b : List Int}, a.Pairwise (· < ·) → b.Pairwise (· < ·) → (∀ k, k ∈ a ↔ k ∈ b) → a = b
  | [], [], _, _, _ => rfl
  | [], y :: b, _, _, h => by have := (h y).mpr List.mem_cons_self; simp at this
  | x :: a, [], _, _, h => by have := (h x).mp List.mem_cons_self; simp at this
  | x :: a, y :: b, ha, hb, h => by
    obtain ⟨a1, a2⟩ := List.pairwise_cons.mp ha
    obtain ⟨b1, b2⟩ := List.pairwise_cons.mp hb
    have e : x = y := by
      rcases List.mem_cons.mp ((h x).mp List.mem_cons_self) with e | e
      · exact e
      · rcases List.mem_cons.mp ((h y).mpr List.mem_cons_self) with e2 | e2
        · exact e2.symm
        · have := a1 y e2; have := b1 x e; omega
    subst e
    rw [up_uniq a2 b2 fun k => ?_]
    have hk := h k
    rw [List.mem_cons, List.mem_cons] at hk
    constructor
    · intro z
      rcases hk.mp (.inr z) with e | e
      · have := a1 k z; omega
      · exact e
    · intro z
      rcases hk.mpr (.inr z) with e | e
      · have := b1 k z; omega
      · exact e
def tSst (K : PySem.W.Frag) (ta : TE) : TE := fun σ H Q => ta σ H fun x H1 => ∃ (l : Addr) (ns : List Int), x = V.ref l ∧ SqL K H1 l (ns.map V.int) ∧ ns.length < 60 ∧ ∀ p, H1 p = none → Q (.ref p) (upd H1 p (.lst ((dset ns).map V.int)))
theorem pe_sst {X : Cx} {a : Expr} {ta : TE} {p1 p2 q2 pos : Pos} (hc : X.calm = true) (g1 : Gl X "sorted") (m1 : X.mg "sorted" = none) (g2 : Gl X "set") (m2 : X.mg "set" = none) (ha : PE X a ta) (na : starEach [a] X.env = [(false, eval a X.env)]) :
    PE X (.Call (.Name "sorted" p1) [.Call (.Name "set" p2) [a] [] q2] [] pos) (tSst X.K ta) := ⟨fun pins s σ H Q I h => by
  refine Call_ (ld_blt I g1 m1 PyProof.Rows.boot_sorted (PyProof.Rows.callWith_builtin1 (PyProof.Rows.args_cons (Call_ (ld_blt I g2 m2 PyProof.Rows.boot_set (PyProof.Rows.callWith_type1 (PyProof.Rows.args_cons (thn (ha.run pins s σ H _ I h) fun v s1 ⟨x, H1, I1, r1, d⟩ => PyProof.Rows.args_nil ?_) na) na rfl))) rfl) rfl rfl))
  obtain ⟨l, ns, rfl, hq, hn, k⟩ := d
  obtain rfl : v = Value.ref l := r1
  obtain ⟨its, r, pl, hz⟩ := I1.list hq
  refine call_setL (I1.ok.hd hc) pl.isList (by simpa using ints_of_vals r) (by unfold scanBound; omega) fun h' tk c f => PyProof.Rows.args_nil ?_
  obtain ⟨f1, f2, f3⟩ := f
  have I2 : Inv X pins σ H1 { s1 with heap := h', toks := tk } := I1.kept f3
  refine sorted_set f1 (I2.ok.hd hc) (by omega) fun s3 p out cc ms k3 g3 o3 hp hg hi hs hm hl => ?_
  have em : ms = dset ns := up_uniq hs (dset_up ns) fun k => by rw [hm k, decide_eq_true_eq, dset_mem]
  have fresh := I2.hok.fresh hp
  have len : (ms.map V.int).length ≤ sizeLine := by
    rw [List.length_map, hl, PySem.sizeLine_eq]; omega
  have I3 : Inv X pins σ (upd H1 p (.lst (ms.map V.int))) { s1 with heap := s3.heap, gens := s3.gens, drawn := s3.drawn, toks := s3.toks } := Inv.call (s := { s1 with heap := h', toks := tk }) (ch := []) I2 (Un.laid k3 hp fresh) (I2.hok.laid k3 hp ⟨len, out.toList, cc, vals_of_ints hi, hg⟩) (by rw [g3]; exact I2.bare) fun _ z => nomatch z
  have e3 : s3 = { s1 with heap := s3.heap, gens := s3.gens, drawn := s3.drawn, toks := s3.toks } := by
    obtain ⟨_, _, _, _, _⟩ := s3
    obtain rfl := o3
    rfl
  rw [e3]
  rw [em] at I3
  exact ⟨.ref p, _, I3, rfl, k p fresh⟩⟩
end PV
namespace PV
open PySem PySem.Spec PyProof.Rows L2

/-! ### dicts of both kinds, by what they hold -/
section
variable {G : Wd} {O : Addr → Prop} {H : Hp}
theorem trk_upd {F : Addr → Prop} {p : Addr} {o : HO} (t : Trk F H) (m : isM o = true) : Trk F (upd H p o) := fun a f => by
  by_cases e : a = p
  · subst e; exact ⟨o, upd_same, m⟩
  · obtain ⟨u, h, k⟩ := t a f
    exact ⟨u, by rw [upd_ne e]; exact h, k⟩
theorem OwnX (hO : O p) {o : HO} : Ext O H O (upd H p o) := fun a u e n => ⟨by rw [upd_ne (show a ≠ p from fun z => n (z ▸ hO))]; exact e, n⟩
theorem RepsK.vals : ∀ {kvs : List (Key × V)} {ds : List (D × D)}, RepsK G O H kvs ds → Reps G O H (kvs.map (·.2)) (ds.map (·.2))
  | _, _, .nil => .nil
  | _, _, .cons h r => .cons h (RepsK.vals r)
theorem RepsT.vals : ∀ {xs : List NE} {ds : List (D × D)}, RepsT G O H xs ds → ∃ vs, Vals vs (xs.map (·.2.2)) ∧ Reps G O H vs (ds.map (·.2))
  | _, _, .nil => ⟨[], .nil, .nil⟩
  | _, _, .cons (v := v) _ _ _ rv h r => let ⟨vs, h1, h2⟩ := RepsT.vals r; ⟨v :: vs, .cons rv h1, .cons h h2⟩
theorem KV.vals : ∀ {kvs : List (Key × V)} {vs : List (Key × Value)}, KV kvs vs → Vals (kvs.map (·.2)) (vs.map (·.2))
  | _, _, .nil => .nil
  | _, _, .cons h t => .cons h.2 (KV.vals t)
theorem dSdf_len (kvs : List (D × D)) (k v : D) : (dSdf kvs k v).length ≤ kvs.length + 1 := by
  unfold dSdf dPut
  split
  · omega
  · split <;> simp
end
section
variable {X : Cx} {pins : List (Addr × Obj)} {σ : L2.St} {H : Hp} {s : Shared} {G : Wd} {O F : Addr → Prop} {A : Around} {E : Value → Shared → Prop} {t : Bool} {kvs : List (D × D)} {kd vd : D} {x y : V} {u iv r : Value}
/-- it is a dict -/
theorem d_isDict (I : Inv X pins σ H s) (hK : G.K = X.K) (hw : G.w = X.w) (hx : RepB G O H x (.dct t kvs)) (rx : RelV x u) :
    ∃ p, x = .ref p ∧ u = .ref p ∧ s.TypeIs (.ref p) "dict" ∧ (∀ b, Value.ref p = .ref b → ∃ ob, s.heap.get? b = some ob ∧ ob.dict = none) ∧ (p == sysModules) = false ∧
      ∃ es ep vs, s.heap.DictRaw p es ep ∧ es.size = kvs.length ∧ es.toList.map (·.val) = vs ∧ ∃ ws, Vals ws vs ∧ Reps G O H ws (kvs.map (·.2)) := by
  cases t with
  | false =>
    obtain ⟨p, ks, rfl, hp, rr⟩ := hx.dct rfl
    obtain rfl : u = Value.ref p := rx
    obtain ⟨z, hd, vs, rel, dd⟩ := dk_of I.hok hp
    obtain ⟨es, ep, raw, hs, he⟩ := dd.raw
    refine ⟨p, rfl, rfl, dd.typeIs, fun b q => ?_, hd, es, ep, _, raw, by rw [hs, ← rel.length, rr.length], rfl, _, ?_, rr.vals⟩
    · cases q
      obtain ⟨ob, _, _, h1, h2, _⟩ := dd
      exact ⟨ob, h1, h2.2.1⟩
    · have : es.toList.map (·.val) = vs.map (·.2) := by
        apply List.ext_getElem?
        intro i
        rw [List.getElem?_map, List.getElem?_map, Array.getElem?_toList]
        by_cases hi : i < es.size
        · have hi' : i < vs.length := hs ▸ hi
          rw [Array.getElem?_eq_getElem hi, List.getElem?_eq_getElem hi']
          have := (he i hi vs[i].1 vs[i].2 (List.getElem?_eq_getElem hi')).2
          simp [this]
        · have hi' : ¬ i < vs.length := hs ▸ hi
          rw [Array.getElem?_eq_none (by omega), List.getElem?_eq_none (by omega)]; rfl
      rw [this]
      exact KV.vals rel
  | true =>
    obtain ⟨p, xs, rfl, hp, rr⟩ := hx.dctN
    obtain rfl : u = Value.ref p := rx
    obtain ⟨dd, hd, z⟩ := dn_of I hK hw hp rr
    obtain ⟨es, ep, raw, hs, he⟩ := dd.raw
    obtain ⟨ws, hv, hr⟩ := rr.vals
    refine ⟨p, rfl, rfl, dd.typeIs, fun b q => ?_, hd, es, ep, _, raw, by rw [hs, rr.length], rfl, ws, ?_, hr⟩
    · cases q
      obtain ⟨ob, _, _, h1, h2, _⟩ := dd
      exact ⟨ob, h1, h2.2.1⟩
    · have : es.toList.map (·.val) = xs.map (·.2.2) := by
        apply List.ext_getElem?
        intro i
        rw [List.getElem?_map, List.getElem?_map, Array.getElem?_toList]
        by_cases hi : i < es.size
        · obtain ⟨y, h1, _, h3, _⟩ := he i hi
          rw [Array.getElem?_eq_getElem hi, h1]
          simp [h3]
        · have hi' : ¬ i < xs.length := hs ▸ hi
          rw [Array.getElem?_eq_none (by omega), List.getElem?_eq_none (by omega)]; rfl
      rw [this]; exact hv
theorem d_getD1 {Q : Value → Shared → Prop} (hu : A.units + 65 < cLine) (I : Inv X pins σ H s) (hK : G.K = X.K) (hw : G.w = X.w) (hx : RepB G O H x (.dct t kvs)) (hy : RepB G O H y kd) (ok : okK t kd = true) (rx : RelV x u) (ry : RelV y iv)
    (h : ∀ w' v s', Inv X pins σ H s' → RelV v w' → Rep G O H v ((dFind kvs kd).getD .non) → Q w' s') : wpAny (model X.prog X.w) A (call (.builtin "dict.get") [u, iv]) Q E s := by
  cases t with
  | false =>
    obtain ⟨p, ks, rfl, hp, rr⟩ := hx.dct rfl
    obtain rfl : u = Value.ref p := rx
    obtain ⟨ky, rfl⟩ := isK_kD (show isK kd = true from ok)
    cases hy.key
    rcases rr.find ky with ⟨e1, e2⟩ | ⟨v1, d1, e1, e2, r1⟩
    · exact d_get1 (by omega) I (DGet.k hp) ry fun w' s' I' rw' => h w' _ s' I' rw' (by rw [e1, e2]; exact .non)
    · exact d_get1 (by omega) I (DGet.k hp) ry fun w' s' I' rw' => h w' _ s' I' rw' (by rw [e1, e2]; exact r1)
  | true =>
    have hz : isKT kd = true := ok
    obtain ⟨p, xs, rfl, hp, rr⟩ := hx.dctN
    obtain ⟨b, rfl, rk⟩ := isKT_ref hz hy
    obtain rfl : u = Value.ref p := rx
    obtain rfl : iv = Value.ref b := ry
    rcases rr.find hz with ⟨e1, e2⟩ | ⟨q, v1, d1, e1, rq, e2, r1⟩
    · exact n_get1 hu I hK hw hp rr hz rk fun s' I' => h _ .non s' I' (by rw [e1]; rfl) (by rw [e2]; exact .non)
    · exact n_get1 hu I hK hw hp rr hz rk fun s' I' => h _ v1 s' I' (by rw [e1]; exact rq) (by rw [e2]; exact r1)
theorem d_getD2 {Q : Value → Shared → Prop} {z : V} {zd : D} (hu : A.units + 65 < cLine) (I : Inv X pins σ H s) (hK : G.K = X.K) (hw : G.w = X.w) (hx : RepB G O H x (.dct t kvs)) (hy : RepB G O H y kd) (ok : okK t kd = true) (rx : RelV x u) (ry : RelV y iv) (rz : RelV z r) (hz2 : Rep G O H z zd)
    (h : ∀ w' v s', Inv X pins σ H s' → RelV v w' → Rep G O H v ((dFind kvs kd).getD zd) → Q w' s') : wpAny (model X.prog X.w) A (call (.builtin "dict.get") [u, iv, r]) Q E s := by
  cases t with
  | false =>
    obtain ⟨p, ks, rfl, hp, rr⟩ := hx.dct rfl
    obtain rfl : u = Value.ref p := rx
    obtain ⟨ky, rfl⟩ := isK_kD (show isK kd = true from ok)
    cases hy.key
    rcases rr.find ky with ⟨e1, e2⟩ | ⟨v1, d1, e1, e2, r1⟩
    · exact d_get2 (by omega) I (DGet.k hp) ry rz fun w' s' I' rw' => h w' _ s' I' rw' (by rw [e1, e2]; exact hz2)
    · exact d_get2 (by omega) I (DGet.k hp) ry rz fun w' s' I' rw' => h w' _ s' I' rw' (by rw [e1, e2]; exact r1)
  | true =>
    have hz : isKT kd = true := ok
    obtain ⟨p, xs, rfl, hp, rr⟩ := hx.dctN
    obtain ⟨b, rfl, rk⟩ := isKT_ref hz hy
    obtain rfl : u = Value.ref p := rx
    obtain rfl : iv = Value.ref b := ry
    rcases rr.find hz with ⟨e1, e2⟩ | ⟨q, v1, d1, e1, rq, e2, r1⟩
    · exact n_get2 hu I hK hw hp rr hz rk fun s' I' => h _ z s' I' (by rw [e1]; exact rz) (by rw [e2]; exact hz2)
    · exact n_get2 hu I hK hw hp rr hz rk fun s' I' => h _ v1 s' I' (by rw [e1]; exact rq) (by rw [e2]; exact r1)
theorem d_setD {Q : Unit → Shared → Prop} {p : Addr} {v : V} (hu : A.units + 65 < cLine) (I : Inv X pins σ H s) (hK : G.K = X.K) (hw : G.w = X.w) (hO : O p) (ow : Own G O F H p (.dct t kvs)) (hy : RepB G O H y kd) (ok : okK t kd = true) (ry : RelV y iv) (hv : Rep G O H v vd) (rv : RelV v r)
    (hl : kvs.length < sizeLine) (h : ∀ o s', isM o = true → Own G O F (upd H p o) p (.dct t (dPut kvs kd vd)) → Inv X pins σ (upd H p o) s' → Q () s') : wpAny (model X.prog X.w) A (setItem (.ref p) iv r) Q E s := by
  have fp := ow.1
  have tf : ∀ {o : HO}, isM o = true → Trk F (upd H p o) := fun {o} m => trk_upd ow.2.1 m
  cases t with
  | false =>
    obtain ⟨ks, hp, rr⟩ := ow.dctF
    obtain ⟨ky, rfl⟩ := isK_kD (show isK kd = true from ok)
    cases hy.key
    refine d_setItem (by omega) I (DPut.k hp (by rw [rr.length]; exact hl)) ry rv fun s' I' => h _ s' rfl (.mkF upd_same fp (tf rfl) ?_) I'
    exact (rr.put hv).ext (OwnX hO)
  | true =>
    obtain ⟨xs, hp, rr⟩ := ow.dctT
    have hz : isKT kd = true := ok
    obtain ⟨b, rfl, rk⟩ := isKT_ref hz hy
    obtain rfl : iv = Value.ref b := ry
    refine n_setItem hu I hK hw hp rr hz rk (by rw [rr.length]; exact hl) fun s' I' => h _ s' rfl (.mkT upd_same fp (tf rfl) ?_) I'
    exact (rr.put hz rk rv hv).ext (OwnX hO)
theorem d_sdfD {Q : Value → Shared → Prop} {p : Addr} {v : V} (hu : A.units + 65 < cLine) (I : Inv X pins σ H s) (hK : G.K = X.K) (hw : G.w = X.w) (hO : O p) (ow : Own G O F H p (.dct t kvs)) (hy : RepB G O H y kd) (ok : okK t kd = true) (ry : RelV y iv) (hv : Rep G O H v vd) (rv : RelV v r)
    (hl : kvs.length < sizeLine) (h : ∀ o w' s', isM o = true → Own G O F (upd H p o) p (.dct t (dSdf kvs kd vd)) → Inv X pins σ (upd H p o) s' → (∃ v', RelV v' w') → Q w' s') : wpAny (model X.prog X.w) A (call (.builtin "dict.setdefault") [.ref p, iv, r]) Q E s := by
  have self : ∀ {o : HO}, H p = some o → upd H p o = H := fun {o} e => by
    funext b
    unfold upd
    split
    · rename_i q; rw [q, e]
    · rfl
  have fp := ow.1
  have tf : ∀ {o : HO}, isM o = true → Trk F (upd H p o) := fun {o} m => trk_upd ow.2.1 m
  cases t with
  | false =>
    obtain ⟨ks, hp, rr⟩ := ow.dctF
    obtain ⟨ky, rfl⟩ := isK_kD (show isK kd = true from ok)
    cases hy.key
    refine d_setd I hp ry rv (by rw [rr.length]; exact hl) (fun v0 e0 w' s' I' rw' => ?_) (fun e0 w' s' I' rw' => ?_)
    · rcases rr.find ky with ⟨e1, e2⟩ | ⟨v1, d1, e1, e2, r1⟩
      · rw [e0] at e1; cases e1
      · refine h (.dK ks) w' s' rfl (.mkF upd_same fp (tf rfl) ?_) (by rw [self hp]; exact I') ⟨_, rw'⟩
        unfold dSdf
        rw [e2]
        exact rr.ext (OwnX hO)
    · rcases rr.find ky with ⟨e1, e2⟩ | ⟨v1, d1, e1, e2, r1⟩
      · refine h _ w' s' rfl (.mkF upd_same fp (tf rfl) ?_) I' ⟨_, rw'⟩
        unfold dSdf
        rw [e2]
        exact (rr.put hv).ext (OwnX hO)
      · rw [e0] at e1; cases e1
  | true =>
    obtain ⟨xs, hp, rr⟩ := ow.dctT
    have hz : isKT kd = true := ok
    obtain ⟨b, rfl, rk⟩ := isKT_ref hz hy
    obtain rfl : iv = Value.ref b := ry
    refine n_setdefault hu I hK hw hp rr hz rk (by rw [rr.length]; exact hl) (fun q e0 s' I' => ?_) (fun e0 s' I' => ?_)
    · rcases rr.find hz with ⟨e1, e2⟩ | ⟨q1, v1, d1, e1, rq, e2, r1⟩
      · rw [e0] at e1; cases e1
      · rw [e0] at e1
        cases e1
        refine h (DNo G.w p xs) _ s' rfl (.mkT upd_same fp (tf rfl) ?_) (by rw [self hp]; exact I') ⟨_, rq⟩
        unfold dSdf
        rw [e2]
        exact rr.ext (OwnX hO)
    · rcases rr.find hz with ⟨e1, e2⟩ | ⟨q1, v1, d1, e1, rq, e2, r1⟩
      · refine h _ _ s' rfl (.mkT upd_same fp (tf rfl) ?_) I' ⟨_, rv⟩
        unfold dSdf
        rw [e2]
        exact (rr.put hz rk rv hv).ext (OwnX hO)
      · rw [e0] at e1; cases e1
theorem d_lenD {Q : Value → Shared → Prop} (I : Inv X pins σ H s) (hK : G.K = X.K) (hw : G.w = X.w) (hx : RepB G O H x (.dct t kvs)) (rx : RelV x u) (hl : kvs.length ≤ sizeLine) (h : ∀ tk s', Inv X pins σ H s' → Q (.int kvs.length tk) s') : wpAny (model X.prog X.w) A (call (.builtin "len") [u]) Q E s := by
  obtain ⟨p, rfl, rfl, ty, _, hd, es, ep, vs, raw, hs, _, _⟩ := d_isDict I hK hw hx rx
  have z := sizeLine_eq
  have hs' : ((es.size : Nat) : Int) = (kvs.length : Int) := by rw [hs]
  refine PyProof.Rows.call_len_slot (n := (es.size : Int)) ty PySem.F.slot_dict_len (fun Q' hq => call_len_raw hd raw hq) (by omega) (by omega) ?_
  rw [hs']
  exact h _ _ (I.tok _)
/-- list(d.values()) : the view is made, then the list -/
theorem d_valsD {Q : Value → Shared → Prop} (hh : A.handled = none) (I : Inv X pins σ H s) (hK : G.K = X.K) (hw : G.w = X.w) (hx : RepB G O H x (.dct t kvs)) (rx : RelV x u) (hl : kvs.length ≤ sizeLine)
    (h : ∀ p ws s', H p = none → Reps G O H ws (kvs.map (·.2)) → Inv X pins σ (upd H p (.lst ws)) s' → Q (.ref p) s') :
    wpAny (model X.prog X.w) A (call (.builtin "dict.values") [u]) (fun vw s1 => wpAny (model X.prog X.w) A (call (.type "list") [vw]) Q E s1) E s := by
  obtain ⟨p, rfl, rfl, ty, _, hd, es, ep, vs, raw, hs, ev, ws, hv, hr⟩ := d_isDict I hK hw hx rx
  refine call_meetsIn PySem.F.slot_dict_values ty PySem.F.entry_dict_values (PySem.F.args_dict_values_1 _) (meets_dict_values_raw p hd) ⟨⟨es, ep, raw⟩, ?_⟩
  have k1 : ∀ b u, s.heap.get? b = some u → (s.heap.push { cls := .type "dict_values", data := .fields #[.ref p] }).get? b = some u := fun b u e => Heap.get?_push_of_some _ e
  have vw : (s.heap.push { cls := .type "dict_values", data := .fields #[.ref p] }).IsValuesView s.heap.objs.size p := ⟨_, Heap.get?_push_size _ rfl, rfl, rfl⟩
  have I1 : Inv X pins σ H { s with heap := s.heap.push { cls := .type "dict_values", data := .fields #[.ref p] } } := I.kept (t' := s.toks) k1
  refine PySem.W.kdl_call (s := { s with heap := s.heap.push { cls := .type "dict_values", data := .fields #[.ref p] } }) (KdlSrc.rawValues (es := es) (ep := ep) (r := s.heap.objs.size) (d := p)) hh ⟨vw, raw.push _⟩ (by omega) fun h' tk acc c hk hD hacc => ?_
  have e1 : acc.toList = vs := by
    obtain ⟨h1, h2⟩ := hacc
    rw [← ev]
    apply List.ext_getElem?
    intro i
    rw [List.getElem?_map, Array.getElem?_toList, Array.getElem?_toList]
    by_cases hi : i < es.size
    · have hi' : i < acc.size := by omega
      rw [Array.getElem?_eq_getElem hi, Array.getElem?_eq_getElem hi']
      obtain ⟨_, q⟩ := h2 i acc[i] (Array.getElem?_eq_getElem hi')
      rw [q]; rfl
    · rw [Array.getElem?_eq_none (by omega), Array.getElem?_eq_none (by omega)]; rfl
  refine h _ ws _ (I1.hok.fresh (Nat.le_refl _)) hr (I1.laid (t' := tk) (fun b ob q => hk b ob q) (Nat.le_refl _) ⟨?_, acc.toList, c, ?_, ?_⟩)
  · rw [hr.length, List.length_map]; exact hl
  · rw [e1]; exact hv
  · rw [Array.toArray_toList]; exact hD
end
end PV
set_option maxHeartbeats 2000000
namespace PV
open PySem PySem.Spec PyProof.Rows L2

/-! ### an object of the abstract heap, fixed for a while -/
/-- neither a tuple, a table, fixed, nor someone's own dict -/
def loose : HO → Bool
  | .tup _ => false
  | .tbl _ => false
  | .frz _ _ => false
  | .own _ => false
  | _ => true
section
variable {X : Cx} {pins : List (Addr × Obj)} {σ : L2.St} {H : Hp} {s : Shared} {p : Addr} {u : HO} {o : Obj}
theorem objOk_upd {a : Addr} {x y : HO} (h : ObjOk X.prog X.w H s.heap a x) (hp : ∀ z, H p = some z → loose z = true) (ne : H p ≠ none) : ObjOk X.prog X.w (upd H p y) s.heap a x := by
  refine h.stay (fun b v _ e => e) (fun b e => ?_) (fun b xs e => ?_)
  · by_cases c : b = p
    · subst c
      have := hp _ e
      cases this
    · rw [upd_ne c]; exact e
  · by_cases c : b = p
    · subst c
      have := hp _ e
      cases this
    · rw [upd_ne c]; exact e
theorem Inv.freeze (I : L2.Inv X pins σ H s) (e : H p = some u) (hl : loose u = true) (ho : s.heap.get? p = some o) : L2.Inv X pins σ (upd H p (.frz o u)) s := by
  have ne : ∀ {b : Addr}, H b = none → b ≠ p := fun {b} n z => by rw [z, e] at n; cases n
  have lo : ∀ z, H p = some z → loose z = true := fun z q => by
    rw [e] at q
    cases q
    exact hl
  refine ⟨I.ok, I.os, I.bare, ⟨I.base.keep, I.base.slot, fun b ob q n x => ?_, I.base.there, fun b xs q => ?_, fun b ob v q => ?_, fun b ps q => ?_⟩, I.loc, I.cell, ?_, fun x c q => ?_, fun q hq => ?_, fun a v q => ?_, I.len⟩
  · have z := I.base.free b ob q n x
    rw [upd_ne (ne z)]; exact z
  · have z := I.base.tups b xs q
    by_cases c : b = p
    · subst c
      have := lo _ z
      cases this
    · rw [upd_ne c]; exact z
  · have z := I.base.frzs b ob v q
    by_cases c : b = p
    · subst c
      have := lo _ z
      cases this
    · rw [upd_ne c]; exact z
  · obtain ⟨more, z⟩ := I.base.tbls b ps q
    by_cases c : b = p
    · subst c
      have := lo _ z
      cases this
    · exact ⟨more, by rw [upd_ne c]; exact z⟩
  · rw [upd_ne (ne I.free)]; exact I.free
  · rw [upd_ne (ne (I.freeC x c q))]; exact I.freeC x c q
  · obtain ⟨a1, a2, a3⟩ := I.pin q hq
    exact ⟨a1, by rw [upd_ne (ne a2)]; exact a2, a3⟩
  · by_cases c : a = p
    · subst c
      rw [upd_same] at q
      cases q
      exact ⟨ho, objOk_upd (I.hok _ _ e) lo (by rw [e]; simp)⟩
    · rw [upd_ne c] at q
      exact objOk_upd (I.hok _ _ q) lo (by rw [e]; simp)
/-- and let go again -/
theorem Inv.thaw (I : L2.Inv X pins σ H s) (e : H p = some (.frz o u)) (hl : loose u = true) (hb : ∀ o' u', X.H_0 p ≠ some (.frz o' u')) : L2.Inv X pins σ (upd H p u) s := by
  have ne : ∀ {b : Addr}, H b = none → b ≠ p := fun {b} n z => by rw [z, e] at n; cases n
  have stay : ∀ {a : Addr} {x : HO}, ObjOk X.prog X.w H s.heap a x → ObjOk X.prog X.w (upd H p u) s.heap a x := fun {a x} h => by
    refine h.stay (fun b v _ e => e) (fun b q => ?_) (fun b xs q => ?_)
    · by_cases c : b = p
      · subst c
        rw [e] at q; cases q
      · rw [upd_ne c]; exact q
    · by_cases c : b = p
      · subst c
        rw [e] at q; cases q
      · rw [upd_ne c]; exact q
  refine ⟨I.ok, I.os, I.bare, ⟨I.base.keep, I.base.slot, fun b ob q n x => ?_, I.base.there, fun b xs q => ?_, fun b ob v q => ?_, fun b ps q => ?_⟩, I.loc, I.cell, ?_, fun x c q => ?_, fun q hq => ?_, fun a v q => ?_, I.len⟩
  · have z := I.base.free b ob q n x
    rw [upd_ne (ne z)]; exact z
  · have z := I.base.tups b xs q
    by_cases c : b = p
    · subst c
      rw [e] at z; cases z
    · rw [upd_ne c]; exact z
  · have z := I.base.frzs b ob v q
    by_cases c : b = p
    · subst c
      exact absurd q (hb _ _)
    · rw [upd_ne c]; exact z
  · obtain ⟨more, z⟩ := I.base.tbls b ps q
    by_cases c : b = p
    · subst c
      rw [e] at z; cases z
    · exact ⟨more, by rw [upd_ne c]; exact z⟩
  · rw [upd_ne (ne I.free)]; exact I.free
  · rw [upd_ne (ne (I.freeC x c q))]; exact I.freeC x c q
  · obtain ⟨a1, a2, a3⟩ := I.pin q hq
    exact ⟨a1, by rw [upd_ne (ne a2)]; exact a2, a3⟩
  · by_cases c : a = p
    · subst c
      rw [upd_same] at q
      cases q
      exact stay (I.hok _ _ e).2
    · rw [upd_ne c] at q
      exact stay (I.hok _ _ q)
theorem Inv.unfixed (I : L2.Inv X pins σ H s) (e : H p = some u) (hl : loose u = true) : ∀ o' u', X.H_0 p ≠ some (.frz o' u') := fun o' u' q => by
  have z := I.base.frzs p o' u' q
  rw [e] at z
  cases z
  cases hl
end
end PV
set_option maxHeartbeats 2000000
namespace PV
open PySem PySem.Spec PyProof.Rows L2

/-! ### the values of a fixed dict whose keys are tuples -/
def Itnv (w : World) (p : Addr) (o : Obj) (xs : List NE) : It where
  go := fun i H => H p = some (.frz o (DNo w p xs)) ∧ i < xs.length
  yld := fun i H x H' => H' = H ∧ ∃ z a, xs[i]? = some z ∧ z.2.2 = .ref a ∧ x = .ref a
  stop := fun i H => H p = some (.frz o (DNo w p xs)) ∧ xs.length ≤ i
theorem turn_nvals {P : Program} {w : World} {K : PySem.W.Frag} {tg : Expr} {p it : Addr} {o : Obj} {xs : List NE} {es : Array DictEntry} {ep : Nat}
    (hod : o.data = .dict es ep) (hes : es.toList = xs.map fun x => ⟨x.1.hash w, .ref x.2.1, x.2.2⟩) (hox : o.ExactDict) (hrel : ∀ z ∈ xs, ∃ a, z.2.2 = .ref a) :
    Turn P w K tg (Itnv w p o xs) [it] it (fun i h => h.IsValIter it p i es.size ep) where
  mem := List.mem_singleton.2 rfl
  obj := by
    intro i h st b hb
    obtain rfl := List.mem_singleton.1 hb
    obtain ⟨oi, e, -, dd⟩ := st
    exact ⟨oi, e, fun v z => by
      rw [dd] at z
      cases z⟩
  keep := by
    intro i h h' st k
    exact st.at fun oi e => k it (List.mem_singleton.2 rfl) oi e
  item := by
    intro X hP hw hK hc i pins s σ H E I hf st hg
    subst hP
    subst hw
    subst hK
    have hz : es.size = xs.length := by rw [← Array.length_toList, hes, List.length_map]
    obtain ⟨hd, hi⟩ := hg
    obtain ⟨f0, f1, -, f3, f4, f5⟩ := hf it (List.mem_singleton.2 rfl)
    have hgd := (I.hok p _ hd).1
    have raw : s.heap.DictRaw p es ep := ⟨o, hgd, hox, hod⟩
    have hi2 : i < es.size := by rw [hz]; exact hi
    refine wpAny_pyNext_values_item_raw st raw hi2 fun h' st' sb => ?_
    have I1 : Inv X pins σ H { s with heap := h' } := I.turned (t' := s.toks) (fun b ob hb e => sb.extBut b ob hb e) f0 f1 f3 f4 f5
    obtain ⟨oi, e, c, dd⟩ := id st'
    have ev : xs[i]? = some xs[i] := List.getElem?_eq_getElem hi
    obtain ⟨x, rx⟩ := hrel xs[i] (List.getElem_mem hi)
    have hv : es[i].val = xs[i].2.2 := by
      have z : es.toList[i]? = some es[i] := by
        rw [Array.getElem?_toList]; exact Array.getElem?_eq_getElem hi2
      rw [hes, List.getElem?_map, ev] at z
      have z := Option.some.inj z
      simp only at z
      exact (congrArg DictEntry.val z).symm
    refine ⟨es[i].val, rfl, go_of (s := { s with heap := h' }) e c dd (by decide) ⟨.ref x, H, I1, by rw [hv, rx]; rfl, ⟨rfl, _, _, ev, rx, rfl⟩, st', fun b hb => (hf b hb).1⟩⟩
  done := by
    intro X hP hw hK hc i pins s σ H E I hf st hg
    subst hP
    subst hw
    subst hK
    have hz : es.size = xs.length := by rw [← Array.length_toList, hes, List.length_map]
    obtain ⟨hd, hi⟩ := hg
    obtain ⟨f0, f1, -, f3, f4, f5⟩ := hf it (List.mem_singleton.2 rfl)
    have raw : s.heap.DictRaw p es ep := ⟨o, (I.hok p _ hd).1, hox, hod⟩
    exact wpAny_pyNext_values_end_raw (I.ok.hd hc) st raw (by rw [hz]; exact hi) fun h' eb => ⟨rfl, I.turned (t' := s.toks) (fun b ob hb e => eb b ob hb e) f0 f1 f3 f4 f5⟩
  self := fun A i s Q E st h => wpAny_pyIter_valiter st h
section
variable {X : Cx} {tg e : Expr} {apos cpos : Pos}
/-- the source: the dict is fixed from here on -/
def iNv (w : World) (td : TE) : TI := fun σ H R => td σ H fun x H1 => ∃ p xs, x = .ref p ∧ H1 p = some (DNo w p xs) ∧ (∀ z ∈ xs, ∃ a, z.2.2 = .ref a) ∧ ∀ o, R (Itnv w p o xs) (upd H1 p (.frz o (DNo w p xs)))
theorem pi_nvals {td : TE} (he : PE X e td) (hbase : attributeBase e "values" X.env (eval e X.env) = eval e X.env) (hline : (apos.endLine == cpos.line) = true) :
    PI X tg (.Call (.Attribute e "values" apos) [] [] cpos) (iNv X.w td) := by
  refine ⟨fun pins s σ H R I h => wpAny_Call_method (T := "dict") (id := "dict.values") hbase rfl hline F.plainAttrs_dict F.slot_dict_values F.type_dict_values (thn (he.run pins s σ H _ I h) fun u s1 ⟨x, H1, I1, rx, p, xs, ex, hd, hv, q⟩ => ?_)⟩
  subst ex
  obtain rfl : u = Value.ref p := rx
  obtain ⟨⟨hs, -, -, o, es, ep, ho, hox, hod, hes⟩, -⟩ := I1.hok p _ hd
  have raw : s1.heap.DictRaw p es ep := ⟨o, ho, hox, hod⟩
  refine ⟨raw.typeIs, fun b z => ?_, ?_⟩
  · cases z
    exact ⟨o, ho, hox.2.1⟩
  · have I2 := Inv.freeze I1 hd rfl ho
    have I3 : Inv X pins σ (upd H1 p (.frz o (DNo X.w p xs))) { s1 with heap := s1.heap.push { cls := .type "dict_values", data := .fields #[.ref p] } } := I2.kept (t' := s1.toks) fun b ob z => Heap.get?_push_of_some _ z
    refine Calls.callWith_builtin rfl (PySem.evalArgs_none (call_meetsIn PySem.F.slot_dict_values raw.typeIs PySem.F.entry_dict_values (PySem.F.args_dict_values_1 _) (meets_dict_values_raw p hs) ⟨⟨es, ep, raw⟩, ?_⟩))
    exact wpAny_pyIter_values_raw (es := es) (ep := ep) (d := p) ⟨_, Heap.get?_push_size _ rfl, rfl, rfl⟩ (raw.push _)
      (pi_one (tk := s1.toks) I3 _ (turn_nvals hod hes hox hv) ⟨_, Heap.get?_push_size _ rfl, rfl, rfl⟩ (q o))
end
end PV
namespace PV
open PySem PySem.Spec PyProof.Rows L2 PySem.Calls

/-! ### sorted(d), d a dict whose keys are pairs of ints -/
section
variable {prog : Program} {w : World} {A : Around} {E : Value → Shared → Prop} {s : Shared}
theorem collect_raw {d : Addr} {es : Array DictEntry} {ep : Nat} {Q : List Value → Shared → Prop} (hh : A.handled = none) (lo : (d == sysModules) = false) (hd : s.heap.DictRaw d es ep) (hz : es.size ≤ sizeLine)
    (h : ∀ h' tk (vs : List Value), (∀ b o, s.heap.get? b = some o → h'.get? b = some o) → vs = es.toList.map (·.key) → Q vs { s with heap := h', toks := tk }) :
    wpAny (model prog w) A (collect (.ref d)) Q E s := by
  refine PySem.W.kdu_collect (KdlSrc.rawDict lo (es := es) (ep := ep)) hh hd hz fun h' tk acc k hacc => h h' tk acc.toList k ?_
  obtain ⟨h1, h2⟩ := hacc
  apply List.ext_getElem?
  intro i
  rw [List.getElem?_map, Array.getElem?_toList, Array.getElem?_toList]
  by_cases hi : i < es.size
  · have hi' : i < acc.size := by omega
    rw [Array.getElem?_eq_getElem hi, Array.getElem?_eq_getElem hi']
    obtain ⟨_, q⟩ := h2 i acc[i] (Array.getElem?_eq_getElem hi')
    rw [q]; rfl
  · rw [Array.getElem?_eq_none (by omega), Array.getElem?_eq_none (by omega)]; rfl
theorem sorted_raw {d : Addr} {es : Array DictEntry} {ep : Nat} {k : Value → Int × Int} {Q : Value → Shared → Prop} (hh : A.handled = none) (lo : (d == sysModules) = false) (hd : s.heap.DictRaw d es ep) (hz : es.size ≤ sizeLine)
    (hp : ∀ v ∈ es.toList.map (·.key), Srt.IsPair s.heap v (k v).1 (k v).2)
    (h : ∀ (h' : Heap) (q : Addr) (out : List Value) (tk : Nat), SrtO.Srtd (fun v u => SrtO.lexB (k v) (k u)) out → SrtO.Stb (fun v u => SrtO.lexB (k v) (k u)) out (es.toList.map (·.key)) → (∀ b o, s.heap.get? b = some o → b ≠ q ∧ h'.get? b = some o) →
      (∃ n, h'.get? q = some (seqObj "list" out.toArray n)) → Q (.ref q) { s with heap := h', toks := tk }) :
    wpAny (model prog w) A (call (.builtin "sorted") [.ref d]) Q E s := by
  refine Calls.call_function_entry kind_sorted plain_sorted entry_sorted (args_sorted1 _) ?_
  unfold Builtin.«sorted»
  refine wpAny_bind (m := checkCount "sorted" 1 1 _) (wpAny_pure ?_)
  refine wpAny_bind (collect_raw (A := A.in1) hh lo hd hz fun h1 tk vs k1 ev => ?_)
  subst ev
  have hl : (es.toList.map (·.key)).length ≤ sizeLine := by simpa using hz
  refine wpAny_bind (wpAny_newList ?_ hl)
  have hoL : (h1.push (seqObj "list" (es.toList.map (·.key)).toArray 0)).get? h1.objs.size = some (seqObj "list" (es.toList.map (·.key)).toArray 0) := Heap.get?_push_size _ rfl
  have k2 : ∀ b o, s.heap.get? b = some o → (h1.push (seqObj "list" (es.toList.map (·.key)).toArray 0)).get? b = some o := fun b o e => Heap.get?_push_of_some _ (k1 b o e)
  have ne0 : ∀ b o, h1.get? b = some o → b ≠ h1.objs.size := fun b o e => Nat.ne_of_lt (Heap.lt_size e)
  refine wpAny_bind (wpAny_holding (wpAny_call_entry slot_list_sort ⟨_, hoL, rfl⟩ entry_list_sort (SrtO.list_sort_ord (SrtO.swo_lex k) hoL hl (fun h2 => SrtO.pairs_sortableO (by omega) (fun v hv => (hp v hv).keeps fun b o e _ => k2 b o e) fun o e c => ?_) fun out hs hb => ⟨_, rfl, ?_⟩) (args_list_sort _)))
  · have e' : some o = some (seqObj "list" (es.toList.map (·.key)).toArray 0) := e.symm.trans hoL
    cases e'
    exact absurd (Value.type.inj c) (by decide)
  · refine wpAny_pure ⟨_, rfl, h _ _ out tk hs hb (fun b o e => ⟨ne0 b o (k1 b o e), (PyProof.Rows.sortedHeap_old (ne0 b o (k1 b o e)) (Heap.lt_size (k2 b o e))).trans (k2 b o e)⟩) (PyProof.Rows.sortedHeap_at hoL)⟩
end
section
variable {X : Cx} {pins : List (Addr × Obj)} {σ : L2.St} {H : Hp} {s : Shared} {G : Wd} {O : Addr → Prop} {A : Around} {E : Value → Shared → Prop}
theorem objOk_some {P : Program} {w : World} {H : Hp} {h : Heap} {a : Addr} {o : HO} (x : ObjOk P w H h a o) : ∃ ob, h.get? a = some ob := by
  cases o with
  | lst xs => obtain ⟨_, _, _, _, e⟩ := x; exact ⟨_, e⟩
  | tup xs => obtain ⟨_, _, _, p⟩ := x; obtain ⟨o, h1, _⟩ := p; exact ⟨_, h1⟩
  | dK kvs => obtain ⟨_, _, _, _, o, _, _, e, _⟩ := x; exact ⟨_, e⟩
  | dT kvs => obtain ⟨_, _, _, _, o, _, _, e, _⟩ := x; exact ⟨_, e⟩
  | set S n => obtain ⟨o, _, _, _, e, _⟩ := x; exact ⟨_, e⟩
  | ins C dx fs => obtain ⟨_, _, _, e, _⟩ := x; exact ⟨_, e⟩
  | own y => obtain ⟨_, e⟩ := x; exact ⟨_, e⟩
  | xd fs => obtain ⟨_, ⟨_, _, _, e, _⟩, _⟩ := x; exact ⟨_, e⟩
  | rng lo hi => obtain ⟨_, _, _, e⟩ := x; exact ⟨_, e⟩
  | frz ob u => obtain ⟨e, _⟩ := x; exact ⟨_, e⟩
  | tbl ps => exact ⟨_, (show h.get? a = some _ from x)⟩
  | met f y => exact ⟨_, (show h.get? a = some _ from x)⟩
  | ext φ => obtain ⟨_, ⟨o, e⟩, _⟩ := x; exact ⟨_, e⟩
/-- a pair of ints, by its reading -/
theorem rep_pair (I : Inv X pins σ H s) (hK : G.K = X.K) {b : Addr} {i j : Int} (h : Rep G O H (.ref b) (.tup [.int i, .int j])) : Srt.IsPair s.heap (.ref b) i j := by
  have key : ∀ {xs : List V} {its : List Value}, Reps G O H xs [.int i, .int j] → Vals xs its → ∃ t u, its = [.int i t, .int j u] := by
    intro xs its r v
    cases r with
    | cons r1 r =>
      cases r with
      | cons r2 r =>
        cases r
        cases r1; cases r2
        cases v with
        | cons v1 v =>
          cases v with
          | cons v2 v =>
            cases v
            obtain ⟨t, rfl⟩ := v1
            obtain ⟨u, rfl⟩ := v2
            exact ⟨t, u, rfl⟩
  cases h with
  | tupH r n h =>
    obtain ⟨its, rv, ⟨o, h1, h2, m, h3⟩, _⟩ := I.tuple (.inl r)
    obtain ⟨t, u, rfl⟩ := key h rv
    exact ⟨b, o, t, u, m, rfl, h1, h2, h3⟩
  | tupK r h =>
    obtain ⟨its, rv, ⟨o, h1, h2, m, h3⟩, _⟩ := I.tuple (hK ▸ r H)
    obtain ⟨t, u, rfl⟩ := key h rv
    exact ⟨b, o, t, u, m, rfl, h1, h2, h3⟩
theorem pLt_lexB (p q : Int × Int) : pLt p q = SrtO.lexB p q := rfl
theorem insP_perm (x : Int × Int) : ∀ l, (insP x l).Perm (x :: l)
  | [] => .refl _
  | y :: l => by
    unfold insP
    split
    · exact ((insP_perm x l).cons y).trans (.swap x y l)
    · exact .refl _
theorem psort_perm : ∀ l : List (Int × Int), (psort l).Perm l
  | [] => .refl _
  | x :: l => (insP_perm x _).trans ((psort_perm l).cons x)
theorem psort_length (l : List (Int × Int)) : (psort l).length = l.length := (psort_perm l).length_eq
def SrtP (l : List (Int × Int)) : Prop := l.Pairwise fun x y => SrtO.lexB y x = false
theorem lexB_tr {x y z : Int × Int} (h1 : SrtO.lexB y x = false) (h2 : SrtO.lexB z y = false) : SrtO.lexB z x = false := by
  have a := SrtO.lexB_no.mp h1
  have b := SrtO.lexB_no.mp h2
  exact SrtO.lexB_no.mpr (by omega)
theorem insP_sorted (x : Int × Int) : ∀ {l}, SrtP l → SrtP (insP x l)
  | [], _ => List.pairwise_singleton _ _
  | y :: l, h => by
    have h' := List.pairwise_cons.mp h
    unfold insP
    split
    · rename_i hq
      refine List.pairwise_cons.mpr ⟨fun z hz => ?_, insP_sorted x h'.2⟩
      rcases List.mem_cons.mp ((insP_perm x l).mem_iff.mp hz) with e | e
      · subst e
        have a := SrtO.lexB_iff.mp hq
        exact SrtO.lexB_no.mpr (by omega)
      · exact h'.1 z e
    · rename_i hq
      have hq' : SrtO.lexB y x = false := by
        rw [← pLt_lexB]
        cases h : pLt y x with
        | true => exact absurd h hq
        | false => rfl
      refine List.pairwise_cons.mpr ⟨fun z hz => ?_, h⟩
      rcases List.mem_cons.mp hz with e | e
      · subst e; exact hq'
      · exact lexB_tr hq' (h'.1 z e)
theorem psort_sorted : ∀ l : List (Int × Int), SrtP (psort l)
  | [] => List.Pairwise.nil
  | x :: l => insP_sorted x (psort_sorted l)
theorem srtP_uniq : ∀ {l m : List (Int × Int)}, SrtP l → SrtP m → l.Perm m → l = m
  | [], m, _, _, p => (List.nil_perm.mp p).symm ▸ rfl
  | x :: l, [], _, _, p => absurd p.length_eq (by simp)
  | x :: l, y :: m, h, h', p => by
    have a := List.pairwise_cons.mp h
    have b := List.pairwise_cons.mp h'
    have e : x = y := by
      have hx : x ∈ y :: m := p.mem_iff.mp List.mem_cons_self
      have hy : y ∈ x :: l := p.mem_iff.mpr List.mem_cons_self
      rcases List.mem_cons.mp hx with e | e
      · exact e
      rcases List.mem_cons.mp hy with e' | e'
      · exact e'.symm
      have c1 := SrtO.lexB_no.mp (b.1 x e)
      have c2 := SrtO.lexB_no.mp (a.1 y e')
      exact Prod.ext (by omega) (by omega)
    subst e
    rw [srtP_uniq a.2 b.2 (List.Perm.cons_inv p)]
theorem dPrs_get : ∀ {ds : List D} {ps : List (Int × Int)}, dPrs ds = some ps → ds = ps.map pD
  | [], ps, h => by cases h; rfl
  | d :: ds, ps, h => by
    unfold dPrs at h
    split at h
    · cases ‹_ = []›
    · rename_i i j r e
      cases e
      obtain ⟨qs, h1, rfl⟩ := Option.map_eq_some_iff.mp h
      rw [List.map_cons, dPrs_get h1]; rfl
    · cases h
theorem keysR : ∀ {xs : List NE} {ds : List (D × D)} {ps : List (Int × Int)}, RepsT G O H xs ds → dPrs (ds.map (·.1)) = some ps → Reps G O H (xs.map fun x => V.ref x.2.1) (ps.map pD)
  | _, _, _, .nil, h => by cases h; exact .nil
  | _, _, ps, .cons (k := kd) a1 a2 a3 a4 a5 r, h => by
    have e1 := dPrs_get h
    cases ps with
    | nil => cases e1
    | cons q ps =>
      rw [List.map_cons, List.map_cons] at e1
      injection e1 with e1 e2
      have e1' : kd = pD q := e1
      subst e1'
      obtain ⟨qs, h1, h2⟩ := Option.map_eq_some_iff.mp (show (dPrs _).map ((q.1, q.2) :: ·) = some (q :: ps) from h)
      cases h2
      exact .cons a3 (keysR r h1)
theorem pair_uniq {h : Heap} {v : Value} {p q : Int × Int} (a : Srt.IsPair h v p.1 p.2) (b : Srt.IsPair h v q.1 q.2) : p = q := by
  obtain ⟨a1, o, t, u, n, rfl, e1, _, e2⟩ := a
  obtain ⟨a2, o', t', u', n', e, e1', _, e2'⟩ := b
  cases e
  rw [e1] at e1'
  cases e1'
  rw [e2] at e2'
  injection e2' with e2' _
  have e3 := congrArg Array.toList e2'
  simp only [List.cons.injEq] at e3
  obtain ⟨e3, e4, _⟩ := e3
  injection e3 with e3
  injection e4 with e4
  exact Prod.ext e3 e4
theorem reps_back {k : Value → Int × Int} : ∀ {out : List Value}, (∀ v ∈ out, Rep G O H (backV v) (pD (k v))) → Reps G O H (out.map backV) (out.map (pD ∘ k))
  | [], _ => .nil
  | v :: out, h => .cons (h v List.mem_cons_self) (reps_back fun w hw => h w (List.mem_cons_of_mem _ hw))
/-- sorted(d) -/
theorem n_sorted {Q : Value → Shared → Prop} {p : Addr} {xs : List NE} {ds : List (D × D)} {ps : List (Int × Int)} (hh : A.handled = none) (I : Inv X pins σ H s) (hK : G.K = X.K) (hw : G.w = X.w) (e : H p = some (DNo G.w p xs)) (r : RepsT G O H xs ds) (hps : dPrs (ds.map (·.1)) = some ps)
    (h : ∀ q ws s', H q = none → Reps G O H ws ((psort ps).map pD) → Inv X pins σ (upd H q (.lst ws)) s' → Q (.ref q) s') :
    wpAny (model X.prog X.w) A (call (.builtin "sorted") [.ref p]) Q E s := by
  obtain ⟨dd, hd, z⟩ := dn_of I hK hw e r
  obtain ⟨es, ep, raw, hs, he⟩ := dd.raw
  have ek : es.toList.map (·.key) = xs.map fun x => Value.ref x.2.1 := by
    apply List.ext_getElem?
    intro i
    rw [List.getElem?_map, List.getElem?_map, Array.getElem?_toList]
    by_cases hi : i < es.size
    · obtain ⟨y, h1, h2, _⟩ := he i hi
      rw [Array.getElem?_eq_getElem hi, h1]
      simp [h2]
    · have hi' : ¬ i < xs.length := hs ▸ hi
      rw [Array.getElem?_eq_none (by omega), List.getElem?_eq_none (by omega)]; rfl
  have kr := keysR r hps
  obtain ⟨k, hk⟩ : ∃ k : Value → Int × Int, ∀ (i : Nat) (b : Addr) (q : Int × Int), (xs.map fun x => V.ref x.2.1)[i]? = some (.ref b) → ps[i]? = some q → k (.ref b) = q := by
    refine ⟨fun v => (Classical.epsilon fun q : Int × Int => Srt.IsPair s.heap v q.1 q.2), fun i b q h1 h2 => ?_⟩
    obtain ⟨d, h3, h4⟩ := kr.get' h1
    rw [List.getElem?_map, h2] at h3
    cases h3
    have hp := rep_pair I hK (i := q.1) (j := q.2) h4
    exact pair_uniq (Classical.epsilon_spec (p := fun q : Int × Int => Srt.IsPair s.heap (.ref b) q.1 q.2) ⟨q, hp⟩) hp
  have km : (xs.map fun x => Value.ref x.2.1).map k = ps := by
    apply List.ext_getElem?
    intro i
    have hl := kr.length
    rw [List.length_map, List.length_map] at hl
    rw [List.map_map, List.getElem?_map]
    by_cases hi : i < xs.length
    · have h1 : ps[i]? = some ps[i] := List.getElem?_eq_getElem (by omega)
      rw [List.getElem?_eq_getElem hi, h1]
      simp only [Option.map_some, Function.comp]
      rw [hk i xs[i].2.1 ps[i] (by rw [List.getElem?_map, List.getElem?_eq_getElem hi]; rfl) h1]
    · rw [List.getElem?_eq_none (by omega), List.getElem?_eq_none (by omega)]; rfl
  have kv : ∀ v ∈ xs.map (fun x => Value.ref x.2.1), ∃ b, v = .ref b ∧ Rep G O H (.ref b) (pD (k v)) := by
    intro v hv
    obtain ⟨i, hi⟩ := List.mem_iff_getElem?.mp hv
    rw [List.getElem?_map] at hi
    obtain ⟨x, hx, rfl⟩ := Option.map_eq_some_iff.mp hi
    have h1 : (xs.map fun x => V.ref x.2.1)[i]? = some (.ref x.2.1) := by rw [List.getElem?_map, hx]; rfl
    obtain ⟨d, h3, h4⟩ := kr.get' h1
    rw [List.getElem?_map] at h3
    obtain ⟨q, h5, rfl⟩ := Option.map_eq_some_iff.mp h3
    refine ⟨_, rfl, ?_⟩
    rw [hk i _ q h1 h5]; exact h4
  refine sorted_raw (k := k) hh hd raw (by rw [hs]; exact z) (fun v hv => ?_) fun h' q out tk hso hst hkp hq => ?_
  · rw [ek] at hv
    obtain ⟨b, rfl, hb⟩ := kv v hv
    exact rep_pair I hK hb
  · rw [ek] at hst
    have hmem : ∀ v ∈ out, v ∈ xs.map (fun x => Value.ref x.2.1) := fun v hv => hst.perm.mem_iff.mp hv
    have hq0 : s.heap.get? q = none := by
      cases e : s.heap.get? q with
      | none => rfl
      | some o => exact absurd rfl (hkp q o e).1
    have hn : H q = none := by
      cases e : H q with
      | none => rfl
      | some u =>
        obtain ⟨o, h0⟩ := objOk_some (I.hok q u e)
        rw [hq0] at h0; cases h0
    have eo : out.map k = psort ps := by
      refine srtP_uniq (List.pairwise_map.mpr hso) (psort_sorted ps) ?_
      rw [← km]
      exact (hst.perm.map k).trans (psort_perm _).symm
    have rr : Reps G O H (out.map backV) ((psort ps).map pD) := by
      rw [← eo, List.map_map]
      exact reps_back fun v hv => by
        obtain ⟨b, rfl, hb⟩ := kv v (hmem v hv)
        exact hb
    obtain ⟨n, hqn⟩ := hq
    refine h q _ _ hn rr (I.laidN (fun b o e => (hkp b o e).2) hq0 hn ⟨?_, out, n, ?_, hqn⟩)
    · rw [List.length_map, hst.len, List.length_map]; exact z
    · exact vals_back fun v hv => by
        obtain ⟨b, rfl, _⟩ := kv v (hmem v hv)
        exact ⟨b, rfl⟩
end
end PV
set_option maxHeartbeats 4000000
namespace L2
open PySem PySem.Spec PyProof.Rows
theorem tuple_mul1 (l : Addr) (items : Array Value) (n : Nat) (dd : Option Addr) (sl : Array (Option Value)) (x : Int) (u : Tok) (c0 : (decide (x < -(2 ^ 63)) || decide (x ≥ 2 ^ 63)) = false) (c1 : (items.isEmpty || x == 1) = true) :
    Meets (Builtin.«tuple.__mul__» ⟨[.ref l, .int x u], []⟩) (fun _ R s => s.heap.get? l = some { cls := .type "tuple", dict := dd, data := .seq items n, slots := sl } ∧
      R (.ok (.ret (Value.ref l))) s) :=
  .of_wp fun prog w A R s h => by
    obtain ⟨hp, g, d, tk, os⟩ := s
    obtain ⟨hl, h⟩ := h
    have f1 := AutoSeq1.idx_int
    wp_walk using wpAny_loadPart' hl
    repeat (first
      | (refine wpAny_ite_false (decide_eq_false (by rw [c0]; exact Bool.false_ne_true)) ?_; wp_walk using wpAny_loadPart' hl)
      | (refine wpAny_ite_true (decide_eq_true c1) ?_; wp_walk using wpAny_loadPart' hl))
    exact ⟨_, rfl, h⟩
theorem tuple_mul0 (l : Addr) (items : Array Value) (n : Nat) (dd : Option Addr) (sl : Array (Option Value)) (x : Int) (u : Tok) (c0 : (decide (x < -(2 ^ 63)) || decide (x ≥ 2 ^ 63)) = false) (c1 : (items.isEmpty || x == 1) = false) (c2 : (decide (x ≤ 0) || items.isEmpty) = true) :
    Meets (Builtin.«tuple.__mul__» ⟨[.ref l, .int x u], []⟩) (fun _ R s => s.heap.get? l = some { cls := .type "tuple", dict := dd, data := .seq items n, slots := sl } ∧
      R (.ok (.ret (Value.ref s.heap.objs.size))) { s with heap := s.heap.push { cls := Value.type "tuple", data := Data.seq #[] }, toks := s.toks }) :=
  .of_wp fun prog w A R s h => by
    obtain ⟨hp, g, d, tk, os⟩ := s
    obtain ⟨hl, h⟩ := h
    have f1 := AutoSeq1.idx_int
    wp_walk using wpAny_loadPart' hl
    repeat (first
      | (refine wpAny_ite_false (decide_eq_false (by rw [c0]; exact Bool.false_ne_true)) ?_; wp_walk using wpAny_loadPart' hl)
      | (refine wpAny_ite_false (decide_eq_false (by rw [c1]; exact Bool.false_ne_true)) ?_; wp_walk using wpAny_loadPart' hl)
      | (refine wpAny_ite_true (decide_eq_true c2) ?_; wp_walk using wpAny_loadPart' hl))
    exact ⟨_, rfl, h⟩
section
variable {X : Cx}
theorem op_repA : OpR X (binaryOp .Mult) (fun x y H Q => ∃ l k xs, x = .ref l ∧ y = .int k ∧ SqT X.K H l xs ∧ 0 ≤ k ∧ k ≤ 1000 ∧ xs.length ≤ 1000 ∧ ((k = 1 ∨ xs = []) → Q (.ref l) H) ∧
    (¬ (k = 1 ∨ xs = []) → ∀ p, H p = none → Q (.ref p) (upd H p (.tup (List.replicate k.toNat xs).flatten)))) := by
  intro pins s σ H x y v u Q I rx ry h
  obtain ⟨l, k, xs, rfl, rfl, hT, h1, h2, hz, q1, q2⟩ := h
  by_cases c : k = 1 ∨ xs = []
  · have q := q1 c
    cases rx
    obtain ⟨t, rfl⟩ := ry
    obtain ⟨its, r, ⟨⟨cls, dd, data, sl⟩, ho, hc, n, hd⟩, hs⟩ := I.tuple hT
    simp only at hc hd
    subst hc hd
    have c0 : (decide (k < -(2 ^ 63)) || decide (k ≥ 2 ^ 63)) = false := by
      rw [decide_eq_false (by omega), decide_eq_false (by omega)] <;> rfl
    have c1 : (its.toArray.isEmpty || k == 1) = true := by
      rcases c with rfl | rfl
      · rw [beq_self_eq_true, Bool.or_true]
      · cases r; rfl
    exact wpAny_binaryOp_repeat_ref (T := "tuple") (U := "int") (by decide) ⟨_, ho, rfl⟩ (fun s' => typeIs_int s' k t) noFill_tuple_mul F.fills_int_mul F.slot_int_rmul repeat_tuple F.slot_int_index.lookup
      (call_meets F.slot_int_rmul (typeIs_int s k t) F.entry_int_rmul (F.args_int_rmul_2 _ _) (int_rmul_tuple k t l its.toArray n dd sl)
        ⟨ho, rfl, ⟨_, ho, rfl⟩, call_meets F.slot_tuple_mul ⟨_, ho, rfl⟩ F.entry_tuple_mul (F.args_tuple_mul_2 _ _) (tuple_mul1 l its.toArray n dd sl k t c0 c1) ⟨ho, ⟨.ref l, _, I, rfl, q⟩⟩⟩)
  · have hne : xs ≠ [] := fun z => c (.inr z)
    have hk1 : k ≠ 1 := fun z => c (.inl z)
    by_cases k2 : 2 ≤ k
    · exact op_repT pins s σ H _ _ v u Q I rx ry ⟨l, k, xs, rfl, rfl, hT, hne, k2, h2, hz, q2 c⟩
    have hk : k = 0 := by omega
    subst hk
    have q := q2 c
    cases rx
    obtain ⟨t, rfl⟩ := ry
    obtain ⟨its, r, ⟨⟨cls, dd, data, sl⟩, ho, hc, n, hd⟩, hs⟩ := I.tuple hT
    simp only at hc hd
    subst hc hd
    have hn : its ≠ [] := fun e => hne (by
      subst e
      cases r; rfl)
    have hi : its.toArray.isEmpty = false := by
      cases its with
      | nil => exact absurd rfl hn
      | cons a b => rfl
    have c1 : (its.toArray.isEmpty || (0 : Int) == 1) = false := by rw [hi]; rfl
    refine wpAny_binaryOp_repeat_ref (T := "tuple") (U := "int") (by decide) ⟨_, ho, rfl⟩ (fun s' => typeIs_int s' 0 t) noFill_tuple_mul F.fills_int_mul F.slot_int_rmul repeat_tuple F.slot_int_index.lookup
      (call_meets F.slot_int_rmul (typeIs_int s 0 t) F.entry_int_rmul (F.args_int_rmul_2 _ _) (int_rmul_tuple 0 t l its.toArray n dd sl)
        ⟨ho, rfl, ⟨_, ho, rfl⟩, call_meets F.slot_tuple_mul ⟨_, ho, rfl⟩ F.entry_tuple_mul (F.args_tuple_mul_2 _ _) (tuple_mul0 l its.toArray n dd sl 0 t rfl c1 rfl) ⟨ho, ?_⟩⟩)
    refine ⟨.ref s.heap.objs.size, _, I.laid (t' := s.toks) (o := .tup []) (fun b ob q => Heap.get?_push_of_some _ q) (Nat.le_refl _) ?_, rfl, q _ (I.hok.fresh (Nat.le_refl _))⟩
    exact ⟨Nat.zero_le _, _, .nil, IsTup.new _ _⟩
end
end L2
namespace PV
open PySem PySem.Spec PyProof.Rows L2

def Bop.py : Bop → Operator
  | .add => .Add | .sub => .Sub | .mul => .Mult | .fdiv => .FloorDiv | .mod => .Mod | .pow => .Pow | .shl => .LShift | .shr => .RShift | .band => .BitAnd | .bor => .BitOr | .bxor => .BitXor
def Cop.py : Cop → CmpOp
  | .eq => .Eq | .ne => .NotEq | .lt => .Lt | .le => .LtE | .gt => .Gt | .ge => .GtE | .isN => .Is | .notN => .IsNot | .inn => .In | .notin => .NotIn

/-- an operation of data, read of values -/
def r2D (G : Wd) (f : D → D → Rs D) : R2 := fun x y H Q => ∃ O d e r, Trk O H ∧ RepB G O H x d ∧ RepB G O H y e ∧ f d e = .ok r ∧ ∀ v H', Same H H' → RetO true G O H H' v r → Q v H'

section
variable {X : Cx} {G : Wd}
/-- list + list, the lists to be read -/
theorem op_catR : OpR X (binaryOp .Add) (fun x y H Q => ∃ l b xs zs, x = .ref l ∧ y = .ref b ∧ SqL X.K H l xs ∧ SqL X.K H b zs ∧ xs.length + zs.length ≤ sizeLine ∧ ∀ p, H p = none → Q (.ref p) (upd H p (.lst (xs ++ zs)))) := by
  intro pins s σ H x y v u Q I rx ry h
  obtain ⟨l, b, xs, zs, rfl, rfl, hH, hB, hz, q⟩ := h
  cases rx
  cases ry
  obtain ⟨as, r1, p1, z1⟩ := I.list hH
  obtain ⟨bs, r2, p2, z2⟩ := I.list hB
  have la := r1.length
  have lb := r2.length
  obtain ⟨⟨oc, od, oD, os⟩, ho, ec, n, eD⟩ := p1.isList
  obtain ⟨⟨oc', od', oD', os'⟩, ho', ec', n', eD'⟩ := p2.isList
  dsimp only at ec eD ec' eD'
  cases ec; cases eD; cases ec'; cases eD'
  have ea : as.toArray ++ bs.toArray = (as ++ bs).toArray := by simp
  refine concat_meets ⟨_, ho, rfl⟩ ⟨_, ho', rfl⟩ PySem.noFill_list_add PySem.seq_list_add PySem.F.slot_list_add PySem.F.entry_list_add (PySem.F.args_list_add_2 _ _)
    (list_addW l b as.toArray bs.toArray n n' od od' os os' (by rw [List.size_toArray, List.size_toArray]; omega)) ⟨ho, ho', ?_⟩
  rw [ea]
  exact ⟨.ref _, _, I.lnew (t' := s.toks) (r1.append r2) (by rw [List.length_append]; omega), rfl, q _ I.fresh⟩
theorem retI {O : Addr → Prop} {H : Hp} {i : Int} : RetO true G O H H (.int i) (.int i) := .of_rep (.int i) rfl
theorem reps_n {O : Addr → Prop} {H : Hp} {vs : List V} {ds : List D} (h : Reps G O H vs ds) : ∀ n : Nat, Reps G O H (List.replicate n vs).flatten (List.replicate n ds).flatten
  | 0 => .nil
  | n + 1 => by
    rw [List.replicate_succ, List.replicate_succ, List.flatten_cons, List.flatten_cons]
    exact h.append (reps_n h n)
theorem op_all (o : Bop) (hK : G.K = X.K) : OpR X (binaryOp o.py) (r2D G (dBin o)) := by
  intro pins s σ H x y v u Q I rx ry h
  obtain ⟨O, d, e, r, hT, hd, he, hr, k⟩ := h
  have k1 : ∀ i, r = .int i → Q (.int i) H := fun i z => k _ H (Same.refl H) (by rw [z]; exact retI)
  cases o with
  | add =>
    cases d <;> (try (cases hr; done)) <;> cases e <;> try (cases hr; done)
    · cases hd.int; cases he.int; cases hr
      exact op_add pins s σ H _ _ v u Q I rx ry ⟨_, _, rfl, rfl, k1 _ rfl⟩
    · cases hd.str; cases he.str
      simp only [dBin] at hr
      split at hr
      · rename_i hz
        cases hr
        exact op_add_str pins s σ H _ _ v u Q I rx ry ⟨_, _, rfl, rfl, hz, k _ H (Same.refl H) (.of_rep (.str _) rfl)⟩
      · cases hr
    · simp only [dBin] at hr
      split at hr
      · rename_i hz
        cases hr
        obtain ⟨p, xs, rfl, h1, r1⟩ := hd.tup
        obtain ⟨q, ys, rfl, h2, r2⟩ := he.tup
        rw [hK] at h1 h2
        have e1 := r1.length
        have e2 := r2.length
        refine op_catA pins s σ H _ _ v u Q I rx ry ⟨p, q, xs, ys, rfl, rfl, h1, h2, by omega, fun z => ?_, fun _ z => ?_, fun _ _ p hp => ?_⟩
        · subst z
          cases r1
          exact k _ H (Same.refl H) (.of_rep (he.rep rfl) rfl)
        · subst z
          cases r2
          exact k _ H (Same.refl H) (.of_rep (by rw [List.append_nil]; exact hd.rep rfl) rfl)
        · exact k _ _ (same_new hp) (.of_rep (new_tup hT hp (r1.append r2)) rfl)
      · cases hr
    · simp only [dBin] at hr
      split at hr
      · rename_i hz
        cases hr
        obtain ⟨p, xs, rfl, h1, r1⟩ := hd.lst
        obtain ⟨q, ys, rfl, h2, r2⟩ := he.lst
        have e1 := r1.length
        have e2 := r2.length
        exact op_catR pins s σ H _ _ v u Q I rx ry ⟨p, q, xs, ys, rfl, rfl, hK ▸ h1, hK ▸ h2, by omega, fun p hp => k _ _ (same_new hp) (new_lst hp (r1.append r2))⟩
      · cases hr
  | sub =>
    cases d <;> (try (cases hr; done)) <;> cases e <;> try (cases hr; done)
    cases hd.int; cases he.int; cases hr
    exact op_sub pins s σ H _ _ v u Q I rx ry ⟨_, _, rfl, rfl, k1 _ rfl⟩
  | mul =>
    cases d <;> (try (cases hr; done)) <;> cases e <;> try (cases hr; done)
    · cases hd.int; cases he.int
      simp only [dBin] at hr
      split at hr
      · rename_i hz
        cases hr
        exact op_mul pins s σ H _ _ v u Q I rx ry ⟨_, _, rfl, rfl, hz, k1 _ rfl⟩
      · cases hr
    · simp only [dBin] at hr
      split at hr
      · rename_i hz
        cases hr
        cases he.int
        obtain ⟨p, xs, rfl, h1, r1⟩ := hd.tup
        rw [hK] at h1
        have e1 := r1.length
        refine op_repA pins s σ H _ _ v u Q I rx ry ⟨p, _, xs, rfl, rfl, h1, hz.1, hz.2.1, by omega, fun z => ?_, fun _ q hq => ?_⟩
        · rcases z with rfl | rfl
          · exact k _ H (Same.refl H) (.of_rep (by rw [show (1 : Int).toNat = 1 from rfl, List.replicate_one, List.flatten_singleton]; exact hd.rep rfl) rfl)
          · cases r1
            exact k _ H (Same.refl H) (.of_rep (by rw [show ∀ n : Nat, (List.replicate n ([] : List D)).flatten = [] from fun n => by simp]; exact hd.rep rfl) rfl)
        · exact k _ _ (same_new hq) (.of_rep (new_tup hT hq (reps_n r1 _)) rfl)
      · cases hr
  | fdiv =>
    cases d <;> (try (cases hr; done)) <;> cases e <;> try (cases hr; done)
    cases hd.int; cases he.int
    simp only [dBin] at hr
    split at hr
    · rename_i i j hz
      cases hr
      refine op_fdivN pins s σ H _ _ v u Q I rx ry ⟨_, _, rfl, rfl, hz, ?_⟩
      have q := k1 _ rfl
      unfold idiv at q
      split at q
      · show Q (V.int (i.fdiv j)) H
        rw [Int.fdiv_eq_ediv_of_nonneg i (by omega)]; exact q
      · exact q
    · cases hr
  | mod =>
    cases d <;> (try (cases hr; done)) <;> cases e <;> try (cases hr; done)
    cases hd.int; cases he.int
    simp only [dBin] at hr
    split at hr
    · rename_i i j hz
      cases hr
      refine op_modN pins s σ H _ _ v u Q I rx ry ⟨_, _, rfl, rfl, hz, ?_⟩
      have q := k1 _ rfl
      unfold imod at q
      split at q
      · show Q (V.int (i.fmod j)) H
        rw [Int.fmod_eq_emod_of_nonneg i (by omega)]; exact q
      · exact q
    · cases hr
  | pow =>
    cases d <;> (try (cases hr; done)) <;> cases e <;> try (cases hr; done)
    cases hd.int; cases he.int
    simp only [dBin] at hr
    split at hr
    · rename_i hz
      cases hr
      exact op_pow pins s σ H _ _ v u Q I rx ry ⟨_, _, rfl, rfl, hz, k1 _ rfl⟩
    · cases hr
  | shl =>
    cases d <;> (try (cases hr; done)) <;> cases e <;> try (cases hr; done)
    cases hd.int; cases he.int
    simp only [dBin] at hr
    split at hr
    · rename_i hz
      cases hr
      exact op_shl pins s σ H _ _ v u Q I rx ry ⟨_, _, rfl, rfl, hz, k1 _ rfl⟩
    · cases hr
  | shr =>
    cases d <;> (try (cases hr; done)) <;> cases e <;> try (cases hr; done)
    cases hd.int; cases he.int
    simp only [dBin] at hr
    split at hr
    · rename_i hz
      cases hr
      exact op_shr pins s σ H _ _ v u Q I rx ry ⟨_, _, rfl, rfl, hz, k1 _ rfl⟩
    · cases hr
  | band =>
    cases d <;> (try (cases hr; done)) <;> cases e <;> try (cases hr; done)
    cases hd.int; cases he.int; cases hr
    exact op_and pins s σ H _ _ v u Q I rx ry ⟨_, _, rfl, rfl, k1 _ rfl⟩
  | bor =>
    cases d <;> (try (cases hr; done)) <;> cases e <;> try (cases hr; done)
    cases hd.int; cases he.int; cases hr
    exact op_or pins s σ H _ _ v u Q I rx ry ⟨_, _, rfl, rfl, k1 _ rfl⟩
  | bxor =>
    cases d <;> (try (cases hr; done)) <;> cases e <;> try (cases hr; done)
    cases hd.int; cases he.int; cases hr
    exact op_xor pins s σ H _ _ v u Q I rx ry ⟨_, _, rfl, rfl, k1 _ rfl⟩
end
end PV
namespace PV
open PySem PySem.Spec PyProof.Rows L2

/-- a comparison of data, read of values -/
def r2C (G : Wd) (f : D → D → Rs D) : R2 := fun x y H Q => ∃ O d e r, Trk O H ∧ RepB G O H x d ∧ RepB G O H y e ∧ f d e = .ok r ∧ ∀ b, r = .bl b → Q (.bl b) H
def vD : D → V
  | .bl b => .bl b
  | .int i => .int i
  | .str s => .str s
  | _ => .non
section
variable {G : Wd} {O : Addr → Prop} {H : Hp}
theorem RepB.flat {v : V} {d : D} (h : RepB G O H v d) (f : flatD d = true) : v = vD d := by
  cases d with
  | non => exact h.non
  | bl b => exact h.bl
  | int b => exact h.int
  | str b => exact h.str
  | _ => cases f
theorem flatV_vD {d : D} (f : flatD d = true) : flatV (vD d) = true := by
  cases d <;> first | rfl | cases f
theorem Reps.flat : ∀ {vs : List V} {ds : List D}, Reps G O H vs ds → ds.all flatD = true → vs = ds.map vD
  | _, _, .nil, _ => rfl
  | _, _, .cons h r, f => by
    rw [List.all_cons, Bool.and_eq_true] at f
    rw [List.map_cons, ← RepB.flat (G := G) (O := O) (H := H) (.inl h) f.1, ← Reps.flat r f.2]
theorem eqV_vD {d e : D} (f : flatD d = true) (f' : flatD e = true) : eqV (vD d) (vD e) = D.eqv d e := by
  cases d <;> cases e <;> first | (cases f; done) | (cases f'; done) | simp [vD, eqV, D.eqv]
theorem inV_vD {d : D} (f : flatD d = true) : ∀ {xs : List D}, xs.all flatD = true → inV (vD d) (xs.map vD) = dIn d xs
  | [], _ => rfl
  | x :: xs, h => by
    rw [List.all_cons, Bool.and_eq_true] at h
    have := inV_vD f h.2
    unfold inV dIn at this ⊢
    rw [List.map_cons, List.any_cons, List.any_cons, this, eqV_vD h.1 f]
theorem all_flatV : ∀ {xs : List D}, xs.all flatD = true → (xs.map vD).all flatV = true
  | [], _ => rfl
  | x :: xs, h => by
    rw [List.all_cons, Bool.and_eq_true] at h
    rw [List.map_cons, List.all_cons, flatV_vD h.1, all_flatV h.2]; rfl
end
theorem any_pd {d : D} (h : okN 60 d = true) : ∀ {xs : List D}, xs.all (okN 60) = true → ((pds xs).any fun z => PyData.eqv z (pd d)) = dIn d xs
  | [], _ => by simp [pds, dIn]
  | x :: xs, hx => by
    rw [List.all_cons, Bool.and_eq_true] at hx
    have := any_pd h hx.2
    unfold dIn at this ⊢
    rw [pds, List.any_cons, List.any_cons, this, eqv_pd 60 x d hx.1 h]
theorem shaped_lst {xs : List D} (h : xs.all (okN 60) = true) : SeqAt.shaped (.list (pds xs)) = true := by
  have := shaped_pd (d := .lst xs) (n := 61) h (by decide)
  rw [pd] at this; exact this

theorem RcOp.lt_str {A : Around} {s : Shared} (a b : Str) (t u : Tok) : Ob.RcOp .Lt A s (.str a t) (.str b u) (decide (a.cps.toList < b.cps.toList)) := fun _ _ _ _ h => PyProof.Rows.lt_str h
def eqJ (xs ys : List D) (j : Nat) : Bool := match xs[j]?, ys[j]? with
  | some x, some y => D.eqv x y
  | _, _ => false
def ltJ (xs ys : List D) (j : Nat) : Bool := match xs[j]?, ys[j]? with
  | some (.int x), some (.int y) => decide (x < y)
  | some (.str x), some (.str y) => decide (x.cps.toList < y.cps.toList)
  | _, _ => false
theorem lexAt_shift {e r : Nat → Bool} {z : Bool} : ∀ (k i : Nat), Ob.lexAt e r z (i + 1) k = Ob.lexAt (fun j => e (j + 1)) (fun j => r (j + 1)) z i k
  | 0, i => rfl
  | k + 1, i => by
    rw [Ob.lexAt_succ, Ob.lexAt_succ, lexAt_shift k (i + 1)]
theorem lexAt_not {e r : Nat → Bool} {z : Bool} : ∀ (k i : Nat), Ob.lexAt e (fun j => !r j) (!z) i k = !Ob.lexAt e r z i k
  | 0, i => rfl
  | k + 1, i => by
    rw [Ob.lexAt_succ, Ob.lexAt_succ, lexAt_not k (i + 1)]
    split <;> rfl
theorem lexAt_D : ∀ (xs ys : List D), cmpAll xs ys = true → Ob.lexAt (eqJ xs ys) (ltJ xs ys) (decide (xs.length < ys.length)) 0 (min xs.length ys.length) = lexLt xs ys
  | [], [], _ => by simp [Ob.lexAt_zero, lexLt]
  | [], y :: ys, _ => by simp [Ob.lexAt_zero, lexLt]
  | x :: xs, [], _ => by simp [Ob.lexAt_zero]; cases x <;> rfl
  | x :: xs, y :: ys, h => by
    have ih : cmpAll xs ys = true → _ := lexAt_D xs ys
    have e1 : min (x :: xs).length (y :: ys).length = min xs.length ys.length + 1 := by simp only [List.length_cons]; omega
    have e2 : decide ((x :: xs).length < (y :: ys).length) = decide (xs.length < ys.length) := by simp
    rw [e1, e2, Ob.lexAt_succ, lexAt_shift]
    have e3 : (fun j => eqJ (x :: xs) (y :: ys) (j + 1)) = eqJ xs ys := by funext j; simp [eqJ]
    have e4 : (fun j => ltJ (x :: xs) (y :: ys) (j + 1)) = ltJ xs ys := by funext j; simp [ltJ]
    rw [e3, e4]
    cases x <;> cases y <;> try (cases h; done)
    · rename_i i j
      rw [ih h, lexLt]
      simp only [eqJ, ltJ, List.getElem?_cons_zero, D.eqv, beq_iff_eq]
    · rename_i i j
      rw [ih h, lexLt]
      simp only [eqJ, ltJ, List.getElem?_cons_zero, D.eqv, beq_iff_eq]
theorem cmpAll_at : ∀ {xs ys : List D} {j : Nat} {x y : D}, cmpAll xs ys = true → xs[j]? = some x → ys[j]? = some y → (∃ a b, x = .int a ∧ y = .int b) ∨ ∃ a b, x = .str a ∧ y = .str b
  | [], _, _, _, _, _, e, _ => by simp at e
  | _ :: _, [], _, _, _, _, _, e => by simp at e
  | x :: xs, y :: ys, 0, _, _, h, e, e' => by
    simp at e e'
    subst e e'
    cases x <;> cases y <;> try (cases h; done)
    · exact .inl ⟨_, _, rfl, rfl⟩
    · exact .inr ⟨_, _, rfl, rfl⟩
  | x :: xs, y :: ys, j + 1, _, _, h, e, e' => by
    simp at e e'
    have h' : cmpAll xs ys = true := by cases x <;> cases y <;> first | (cases h; done) | exact h
    exact cmpAll_at h' e e'
section
variable {X : Cx} {G : Wd}
theorem op_ltD (hK : G.K = X.K) (hu : X.A.units + 65 < cLine) : OpR X (compareOp .Lt) (fun x y H Q => ∃ (O : Addr → Prop) (xs ys : List D), Rep G O H x (.tup xs) ∧ Rep G O H y (.tup ys) ∧ cmpAll xs ys = true ∧ Q (.bl (lexLt xs ys)) H) := by
  intro pins s σ H x y v u Q I rx ry h
  obtain ⟨O, ds, es, hx, hy, hc, q⟩ := h
  obtain ⟨a, xs, rfl, ha, r1⟩ := hx.tup
  obtain ⟨b, ys, rfl, hb, r2⟩ := hy.tup
  rw [hK] at ha hb
  cases rx
  cases ry
  obtain ⟨its, rv, p1, _⟩ := I.tuple ha
  obtain ⟨its2, rv2, p2, _⟩ := I.tuple hb
  have l1 := r1.length
  have l2 := r2.length
  have m1 := rv.length
  have m2 := rv2.length
  have at1 : ∀ j (h1 : j < its.toArray.size), ∃ (v : V) (d : D), RelV v its.toArray[j] ∧ Rep G O H v d ∧ ds[j]? = some d := fun j h1 => by
    have hj : j < ds.length := by simp at h1; omega
    obtain ⟨v, ev, rd⟩ := r1.get (i := j) (d := ds[j]) (List.getElem?_eq_getElem hj)
    obtain ⟨u, eu, ru⟩ := rv.get ev
    refine ⟨v, ds[j], ?_, rd, List.getElem?_eq_getElem hj⟩
    have : its.toArray[j] = u := by
      simp at h1
      rw [List.getElem?_eq_getElem h1] at eu
      simpa using eu
    rw [this]; exact ru
  have at2 : ∀ j (h1 : j < its2.toArray.size), ∃ (v : V) (d : D), RelV v its2.toArray[j] ∧ Rep G O H v d ∧ es[j]? = some d := fun j h1 => by
    have hj : j < es.length := by simp at h1; omega
    obtain ⟨v, ev, rd⟩ := r2.get (i := j) (d := es[j]) (List.getElem?_eq_getElem hj)
    obtain ⟨u, eu, ru⟩ := rv2.get ev
    refine ⟨v, es[j], ?_, rd, List.getElem?_eq_getElem hj⟩
    have : its2.toArray[j] = u := by
      simp at h1
      rw [List.getElem?_eq_getElem h1] at eu
      simpa using eu
    rw [this]; exact ru
  have R := Ob.RcOp.tuples_lt (A := X.A) (s := s) (e := eqJ ds es) (r := ltJ ds es) p1 p2 (by omega) (fun j h1 h2 => by
    obtain ⟨v1, d1, q1, q2, q3⟩ := at1 j h1
    obtain ⟨v2, d2, w1, w2, w3⟩ := at2 j h2
    have ee : eqJ ds es j = D.eqv d1 d2 := by simp only [eqJ, q3, w3]
    rw [ee]
    rcases cmpAll_at hc q3 w3 with ⟨a, b, rfl, rfl⟩ | ⟨a, b, rfl, rfl⟩
    · cases q2; cases w2
      obtain ⟨t, et⟩ := q1
      obtain ⟨t', et'⟩ := w1
      rw [et, et']
      exact SeqAt.EqAt.int_int _ _ _ _
    · cases q2; cases w2
      obtain ⟨t, et⟩ := q1
      obtain ⟨t', et'⟩ := w1
      rw [et, et']
      exact SeqAt.EqAt.str_str _ _ _ _) (fun j h1 h2 _ => by
    obtain ⟨v1, d1, q1, q2, q3⟩ := at1 j h1
    obtain ⟨v2, d2, w1, w2, w3⟩ := at2 j h2
    rcases cmpAll_at hc q3 w3 with ⟨a, b, rfl, rfl⟩ | ⟨a, b, rfl, rfl⟩
    · cases q2; cases w2
      obtain ⟨t, et⟩ := q1
      obtain ⟨t', et'⟩ := w1
      have ee : ltJ ds es j = decide (a < b) := by simp only [ltJ, q3, w3]
      rw [et, et', ee]
      exact Ob.RcOp.lt_int _ _ _ _
    · cases q2; cases w2
      obtain ⟨t, et⟩ := q1
      obtain ⟨t', et'⟩ := w1
      have ee : ltJ ds es j = decide (a.cps.toList < b.cps.toList) := by simp only [ltJ, q3, w3]
      rw [et, et', ee]
      exact RcOp.lt_str _ _ _ _)
  have e1 : its.toArray.size = ds.length := by rw [List.size_toArray]; omega
  have e2 : its2.toArray.size = es.length := by rw [List.size_toArray]; omega
  rw [e1, e2, lexAt_D _ _ hc] at R
  have z : wpAny (model X.prog X.w) X.A (compareOp .Lt (.ref a) (.ref b)) (EP X pins σ Q) X.xe s := R X.prog X.w X.xe (EP X pins σ Q) ⟨.bl _, H, I, rfl, q⟩
  exact z

theorem op_geD (hK : G.K = X.K) (hu : X.A.units + 65 < cLine) : OpR X (compareOp .GtE) (fun x y H Q => ∃ (O : Addr → Prop) (xs ys : List D), Rep G O H x (.tup xs) ∧ Rep G O H y (.tup ys) ∧ cmpAll xs ys = true ∧ xs.all isI = true ∧ Q (.bl (!lexLt xs ys)) H) := by
  intro pins s σ H x y v u Q I rx ry h
  obtain ⟨O, ds, es, hx, hy, hc, hi, q⟩ := h
  obtain ⟨a, xs, rfl, ha, r1⟩ := hx.tup
  obtain ⟨b, ys, rfl, hb, r2⟩ := hy.tup
  rw [hK] at ha hb
  cases rx
  cases ry
  obtain ⟨its, rv, p1, _⟩ := I.tuple ha
  obtain ⟨its2, rv2, p2, _⟩ := I.tuple hb
  have l1 := r1.length
  have l2 := r2.length
  have m1 := rv.length
  have m2 := rv2.length
  have at1 : ∀ j (h1 : j < its.toArray.size), ∃ (v : V) (d : D), RelV v its.toArray[j] ∧ Rep G O H v d ∧ ds[j]? = some d := fun j h1 => by
    have hj : j < ds.length := by simp at h1; omega
    obtain ⟨v, ev, rd⟩ := r1.get (i := j) (d := ds[j]) (List.getElem?_eq_getElem hj)
    obtain ⟨u, eu, ru⟩ := rv.get ev
    refine ⟨v, ds[j], ?_, rd, List.getElem?_eq_getElem hj⟩
    have : its.toArray[j] = u := by
      simp at h1
      rw [List.getElem?_eq_getElem h1] at eu
      simpa using eu
    rw [this]; exact ru
  have at2 : ∀ j (h1 : j < its2.toArray.size), ∃ (v : V) (d : D), RelV v its2.toArray[j] ∧ Rep G O H v d ∧ es[j]? = some d := fun j h1 => by
    have hj : j < es.length := by simp at h1; omega
    obtain ⟨v, ev, rd⟩ := r2.get (i := j) (d := es[j]) (List.getElem?_eq_getElem hj)
    obtain ⟨u, eu, ru⟩ := rv2.get ev
    refine ⟨v, es[j], ?_, rd, List.getElem?_eq_getElem hj⟩
    have : its2.toArray[j] = u := by
      simp at h1
      rw [List.getElem?_eq_getElem h1] at eu
      simpa using eu
    rw [this]; exact ru
  have R := Ob.RcOp.tuples_ge (A := X.A) (s := s) (e := eqJ ds es) (r := fun j => !ltJ ds es j) p1 p2 (by omega) (fun j h1 h2 => by
    obtain ⟨v1, d1, q1, q2, q3⟩ := at1 j h1
    obtain ⟨v2, d2, w1, w2, w3⟩ := at2 j h2
    have ee : eqJ ds es j = D.eqv d1 d2 := by simp only [eqJ, q3, w3]
    rw [ee]
    rcases cmpAll_at hc q3 w3 with ⟨a, b, rfl, rfl⟩ | ⟨a, b, rfl, rfl⟩
    · cases q2; cases w2
      obtain ⟨t, et⟩ := q1
      obtain ⟨t', et'⟩ := w1
      rw [et, et']
      exact SeqAt.EqAt.int_int _ _ _ _
    · cases q2; cases w2
      obtain ⟨t, et⟩ := q1
      obtain ⟨t', et'⟩ := w1
      rw [et, et']
      exact SeqAt.EqAt.str_str _ _ _ _) (fun j h1 h2 _ => by
    obtain ⟨v1, d1, q1, q2, q3⟩ := at1 j h1
    obtain ⟨v2, d2, w1, w2, w3⟩ := at2 j h2
    rcases cmpAll_at hc q3 w3 with ⟨a, b, rfl, rfl⟩ | ⟨a, b, rfl, rfl⟩
    · cases q2; cases w2
      obtain ⟨t, et⟩ := q1
      obtain ⟨t', et'⟩ := w1
      have ee : (!ltJ ds es j) = decide (b ≤ a) := by
        simp only [ltJ, q3, w3]
        by_cases z : a < b
        · rw [decide_eq_true z, decide_eq_false (by omega)]; rfl
        · rw [decide_eq_false z, decide_eq_true (by omega)]; rfl
      rw [et, et', ee]
      exact Ob.RcOp.ge_int _ _ _ _
    · have := List.all_eq_true.mp hi _ (List.mem_of_getElem? q3)
      cases this)
  have e1 : its.toArray.size = ds.length := by rw [List.size_toArray]; omega
  have e2 : its2.toArray.size = es.length := by rw [List.size_toArray]; omega
  have e3 : decide (ds.length ≥ es.length) = !decide (ds.length < es.length) := by
    by_cases z : ds.length < es.length
    · rw [decide_eq_true z, decide_eq_false (by omega)]; rfl
    · rw [decide_eq_false z, decide_eq_true (by omega)]; rfl
  rw [e1, e2, e3, lexAt_not, lexAt_D _ _ hc] at R
  have z : wpAny (model X.prog X.w) X.A (compareOp .GtE (.ref a) (.ref b)) (EP X pins σ Q) X.xe s := R X.prog X.w X.xe (EP X pins σ Q) ⟨.bl _, H, I, rfl, q⟩
  exact z

theorem firstLt_lexAt (e r : Nat → Bool) (z : Bool) : ∀ (k i : Nat), SeqAt.firstLt e r z (List.range' i k) = Ob.lexAt e r z i k
  | 0, _ => rfl
  | k + 1, i => by
    rw [List.range'_succ, SeqAt.firstLt, Ob.lexAt_succ, firstLt_lexAt e r z k (i + 1)]
theorem firstLt_D (xs ys : List D) (h : cmpAll xs ys = true) : SeqAt.firstLt (eqJ xs ys) (ltJ xs ys) (decide (xs.length < ys.length)) (List.range (min xs.length ys.length)) = lexLt xs ys := by
  rw [List.range_eq_range', firstLt_lexAt, lexAt_D xs ys h]
theorem op_ltL (hK : G.K = X.K) (hu : X.A.units + 65 < cLine) : OpR X (compareOp .Lt) (fun x y H Q => ∃ (O : Addr → Prop) (xs ys : List D), RepB G O H x (.lst xs) ∧ RepB G O H y (.lst ys) ∧ cmpAll xs ys = true ∧ Q (.bl (lexLt xs ys)) H) := by
  intro pins s σ H x y v u Q I rx ry h
  obtain ⟨O, ds, es, hx, hy, hc, q⟩ := h
  obtain ⟨a, xs, rfl, ha, r1⟩ := hx.lst
  obtain ⟨b, ys, rfl, hb, r2⟩ := hy.lst
  rw [hK] at ha hb
  cases rx
  cases ry
  obtain ⟨its, rv, p1, _⟩ := I.list ha
  obtain ⟨its2, rv2, p2, _⟩ := I.list hb
  have l1 := r1.length
  have l2 := r2.length
  have m1 := rv.length
  have m2 := rv2.length
  have at1 : ∀ j (h1 : j < its.toArray.size), ∃ (v : V) (d : D), RelV v its.toArray[j] ∧ Rep G O H v d ∧ ds[j]? = some d := fun j h1 => by
    have hj : j < ds.length := by simp at h1; omega
    obtain ⟨v, ev, rd⟩ := r1.get (i := j) (d := ds[j]) (List.getElem?_eq_getElem hj)
    obtain ⟨u, eu, ru⟩ := rv.get ev
    refine ⟨v, ds[j], ?_, rd, List.getElem?_eq_getElem hj⟩
    have : its.toArray[j] = u := by
      simp at h1
      rw [List.getElem?_eq_getElem h1] at eu
      simpa using eu
    rw [this]; exact ru
  have at2 : ∀ j (h1 : j < its2.toArray.size), ∃ (v : V) (d : D), RelV v its2.toArray[j] ∧ Rep G O H v d ∧ es[j]? = some d := fun j h1 => by
    have hj : j < es.length := by simp at h1; omega
    obtain ⟨v, ev, rd⟩ := r2.get (i := j) (d := es[j]) (List.getElem?_eq_getElem hj)
    obtain ⟨u, eu, ru⟩ := rv2.get ev
    refine ⟨v, es[j], ?_, rd, List.getElem?_eq_getElem hj⟩
    have : its2.toArray[j] = u := by
      simp at h1
      rw [List.getElem?_eq_getElem h1] at eu
      simpa using eu
    rw [this]; exact ru
  have R := SeqAt.RcLt.lists (A := X.A) (s := s) (e := eqJ ds es) (r := ltJ ds es) p1.isList p2.isList (by omega) (fun j h1 h2 => by
    obtain ⟨v1, d1, q1, q2, q3⟩ := at1 j h1
    obtain ⟨v2, d2, w1, w2, w3⟩ := at2 j h2
    have ee : eqJ ds es j = D.eqv d1 d2 := by simp only [eqJ, q3, w3]
    rw [ee]
    rcases cmpAll_at hc q3 w3 with ⟨a, b, rfl, rfl⟩ | ⟨a, b, rfl, rfl⟩
    · cases q2; cases w2
      obtain ⟨t, et⟩ := q1
      obtain ⟨t', et'⟩ := w1
      rw [et, et']
      exact SeqAt.EqAt.int_int _ _ _ _
    · cases q2; cases w2
      obtain ⟨t, et⟩ := q1
      obtain ⟨t', et'⟩ := w1
      rw [et, et']
      exact SeqAt.EqAt.str_str _ _ _ _) (fun j h1 h2 _ => by
    obtain ⟨v1, d1, q1, q2, q3⟩ := at1 j h1
    obtain ⟨v2, d2, w1, w2, w3⟩ := at2 j h2
    rcases cmpAll_at hc q3 w3 with ⟨a, b, rfl, rfl⟩ | ⟨a, b, rfl, rfl⟩
    · cases q2; cases w2
      obtain ⟨t, et⟩ := q1
      obtain ⟨t', et'⟩ := w1
      have ee : ltJ ds es j = decide (a < b) := by simp only [ltJ, q3, w3]
      rw [et, et', ee]
      exact Ob.RcOp.lt_int _ _ _ _
    · cases q2; cases w2
      obtain ⟨t, et⟩ := q1
      obtain ⟨t', et'⟩ := w1
      have ee : ltJ ds es j = decide (a.cps.toList < b.cps.toList) := by simp only [ltJ, q3, w3]
      rw [et, et', ee]
      exact RcOp.lt_str _ _ _ _)
  have e1 : its.toArray.size = ds.length := by rw [List.size_toArray]; omega
  have e2 : its2.toArray.size = es.length := by rw [List.size_toArray]; omega
  rw [e1, e2, firstLt_D _ _ hc] at R
  have z : wpAny (model X.prog X.w) X.A (compareOp .Lt (.ref a) (.ref b)) (EP X pins σ Q) X.xe s := R X.prog X.w X.xe (EP X pins σ Q) ⟨.bl _, H, I, rfl, q⟩
  exact z

theorem op_eqDD (hK : G.K = X.K) (hu : X.A.units + 65 < cLine) : OpR X (compareOp .Eq) (r2C G fun d e => if okN 60 d && okN 60 e then .ok (.bl (D.eqv d e)) else .st) := by
  intro pins s σ H x y v u Q I rx ry h
  obtain ⟨O, d, e, r, hT, hd, he, hr, k⟩ := h
  dsimp only at hr
  split at hr
  · rename_i hz
    rw [Bool.and_eq_true] at hz
    cases hr
    refine op_eqD (by omega) pins s σ H _ _ v u Q I rx ry ⟨_, _, hK ▸ hd.dp hz.1, hK ▸ he.dp hz.2, shaped_pd hz.1 (by decide), shaped_pd hz.2 (by decide), ?_⟩
    rw [← eqv_pd 60 d e hz.1 hz.2]; exact k _ rfl
  · cases hr
theorem op_neDD (hK : G.K = X.K) (hu : X.A.units + 65 < cLine) : OpR X (compareOp .NotEq) (r2C G fun d e => if okN 60 d && okN 60 e then .ok (.bl (!D.eqv d e)) else .st) := by
  intro pins s σ H x y v u Q I rx ry h
  obtain ⟨O, d, e, r, hT, hd, he, hr, k⟩ := h
  dsimp only at hr
  split at hr
  · rename_i hz
    rw [Bool.and_eq_true] at hz
    cases hr
    refine op_neD (by omega) pins s σ H _ _ v u Q I rx ry ⟨_, _, hK ▸ hd.dp hz.1, hK ▸ he.dp hz.2, shaped_pd hz.1 (by decide), shaped_pd hz.2 (by decide), ?_⟩
    rw [← eqv_pd 60 d e hz.1 hz.2]; exact k _ rfl
  · cases hr
theorem cop_all (o : Cop) (hK : G.K = X.K) (hw : G.w = X.w) (hu : X.A.units + 65 < cLine) : OpR X (compareOp o.py) (r2C G (dCmp o)) := by
  intro pins s σ H x y v u Q I rx ry h
  obtain ⟨O, d, e, r, hT, hd, he, hr, k⟩ := h
  cases o with
  | eq =>
    have deep : (∀ a b, ¬ (d = .str a ∧ e = .str b)) → dCmp .eq d e = (if okN 60 d && okN 60 e then .ok (.bl (D.eqv d e)) else .st) := fun n => by
      cases d <;> first | rfl | (cases e <;> first | rfl | exact absurd ⟨rfl, rfl⟩ (n _ _))
    by_cases z : ∃ a b, d = .str a ∧ e = .str b
    · obtain ⟨a, b, rfl, rfl⟩ := z
      cases hd.str; cases he.str; cases hr
      refine op_eq pins s σ H _ _ v u Q I rx ry ⟨rfl, ?_⟩
      rw [dec_str]; exact k _ rfl
    · rw [deep fun a b q => z ⟨a, b, q⟩] at hr
      exact op_eqDD hK hu pins s σ H _ _ v u Q I rx ry ⟨O, d, e, r, hT, hd, he, hr, k⟩
  | ne =>
    have deep : (∀ a b, ¬ (d = .str a ∧ e = .str b)) → dCmp .ne d e = (if okN 60 d && okN 60 e then .ok (.bl (!D.eqv d e)) else .st) := fun n => by
      cases d <;> first | rfl | (cases e <;> first | rfl | exact absurd ⟨rfl, rfl⟩ (n _ _))
    by_cases z : ∃ a b, d = .str a ∧ e = .str b
    · obtain ⟨a, b, rfl, rfl⟩ := z
      cases hd.str; cases he.str; cases hr
      refine op_ne pins s σ H _ _ v u Q I rx ry ⟨rfl, ?_⟩
      rw [dec_str]; exact k _ rfl
    · rw [deep fun a b q => z ⟨a, b, q⟩] at hr
      exact op_neDD hK hu pins s σ H _ _ v u Q I rx ry ⟨O, d, e, r, hT, hd, he, hr, k⟩
  | lt =>
    cases d <;> (try (cases hr; done)) <;> cases e <;> try (cases hr; done)
    · cases hd.int; cases he.int; cases hr
      exact op_lt pins s σ H _ _ v u Q I rx ry ⟨_, _, rfl, rfl, k _ rfl⟩
    · simp only [dCmp] at hr
      split at hr
      · rename_i hz
        cases hr
        exact op_ltD hK hu pins s σ H _ _ v u Q I rx ry ⟨O, _, _, hd.rep rfl, he.rep rfl, hz, k _ rfl⟩
      · cases hr
    · simp only [dCmp] at hr
      split at hr
      · rename_i hz
        cases hr
        exact op_ltL hK hu pins s σ H _ _ v u Q I rx ry ⟨O, _, _, hd, he, hz, k _ rfl⟩
      · cases hr
  | le =>
    cases d <;> (try (cases hr; done)) <;> cases e <;> try (cases hr; done)
    cases hd.int; cases he.int; cases hr
    exact op_le pins s σ H _ _ v u Q I rx ry ⟨_, _, rfl, rfl, k _ rfl⟩
  | gt =>
    cases d <;> (try (cases hr; done)) <;> cases e <;> try (cases hr; done)
    cases hd.int; cases he.int; cases hr
    exact op_gt pins s σ H _ _ v u Q I rx ry ⟨_, _, rfl, rfl, k _ rfl⟩
  | ge =>
    cases d <;> (try (cases hr; done)) <;> cases e <;> try (cases hr; done)
    · cases hd.int; cases he.int; cases hr
      exact op_ge pins s σ H _ _ v u Q I rx ry ⟨_, _, rfl, rfl, k _ rfl⟩
    · simp only [dCmp] at hr
      split at hr
      · rename_i hz
        cases hr
        rw [Bool.and_eq_true] at hz
        exact op_geD hK hu pins s σ H _ _ v u Q I rx ry ⟨O, _, _, hd.rep rfl, he.rep rfl, hz.1, hz.2, k _ rfl⟩
      · cases hr
  | isN =>
    by_cases zb : ∃ a b, d = .bl a ∧ e = .bl b
    · obtain ⟨a, b, rfl, rfl⟩ := zb
      cases hd.bl; cases he.bl; cases hr
      exact op_is_bl pins s σ H _ _ v u Q I rx ry ⟨_, _, rfl, rfl, k _ rfl⟩
    cases e <;> try (cases d <;> first | exact absurd ⟨_, _, rfl, rfl⟩ zb | cases hr; done)
    cases he.non
    refine op_isN pins s σ H _ _ v u Q I rx ry ⟨rfl, ?_⟩
    cases hr
    have q := k _ rfl
    cases d with
    | non => cases hd.non; exact q
    | bl _ => cases hd.bl; exact q
    | int _ => cases hd.int; exact q
    | str _ => cases hd.str; exact q
    | tup _ => obtain ⟨p, _, rfl, _⟩ := hd.tup; exact q
    | lst _ => obtain ⟨p, _, rfl, _⟩ := hd.lst; exact q
    | gtp _ => obtain ⟨p, rfl⟩ := hd.ref rfl; exact q
    | gdc _ => obtain ⟨p, rfl⟩ := hd.ref rfl; exact q
    | dct _ _ => obtain ⟨p, rfl⟩ := hd.ref rfl; exact q
    | ins _ => obtain ⟨p, rfl⟩ := hd.ref rfl; exact q
    | exc _ _ => obtain ⟨p, rfl⟩ := hd.ref rfl; exact q
    | nst _ => obtain ⟨p, rfl⟩ := hd.ref rfl; exact q
    | ndc _ => obtain ⟨p, rfl⟩ := hd.ref rfl; exact q
    | obj _ _ => obtain ⟨p, rfl⟩ := hd.ref rfl; exact q
  | notN =>
    by_cases zb : ∃ a b, d = .bl a ∧ e = .bl b
    · obtain ⟨a, b, rfl, rfl⟩ := zb
      cases hd.bl; cases he.bl; cases hr
      exact op_isnot_bl pins s σ H _ _ v u Q I rx ry ⟨_, _, rfl, rfl, k _ rfl⟩
    cases e <;> try (cases d <;> first | exact absurd ⟨_, _, rfl, rfl⟩ zb | cases hr; done)
    cases he.non
    refine op_notN pins s σ H _ _ v u Q I rx ry ⟨rfl, ?_⟩
    cases hr
    have q := k _ rfl
    cases d with
    | non => cases hd.non; exact q
    | bl _ => cases hd.bl; exact q
    | int _ => cases hd.int; exact q
    | str _ => cases hd.str; exact q
    | tup _ => obtain ⟨p, _, rfl, _⟩ := hd.tup; exact q
    | lst _ => obtain ⟨p, _, rfl, _⟩ := hd.lst; exact q
    | gtp _ => obtain ⟨p, rfl⟩ := hd.ref rfl; exact q
    | gdc _ => obtain ⟨p, rfl⟩ := hd.ref rfl; exact q
    | dct _ _ => obtain ⟨p, rfl⟩ := hd.ref rfl; exact q
    | ins _ => obtain ⟨p, rfl⟩ := hd.ref rfl; exact q
    | exc _ _ => obtain ⟨p, rfl⟩ := hd.ref rfl; exact q
    | nst _ => obtain ⟨p, rfl⟩ := hd.ref rfl; exact q
    | ndc _ => obtain ⟨p, rfl⟩ := hd.ref rfl; exact q
    | obj _ _ => obtain ⟨p, rfl⟩ := hd.ref rfl; exact q
  | inn =>
    cases e <;> try (cases d <;> cases hr; done)
    · rename_i z
      cases d <;> try (cases hr; done)
      rename_i w
      simp only [dCmp] at hr
      split at hr
      · rename_i c hc
        cases hr
        cases hd.str
        cases he.str
        obtain rfl : w = ⟨#[c]⟩ := Str.ext' (Array.toList_inj.mp hc)
        exact op_in_sign pins s σ H _ _ v u Q I rx ry ⟨c, z, rfl, rfl, k _ rfl⟩
      · cases hr
    · rename_i xs
      have hr' : (if (flatD d && xs.all flatD) = true then Rs.ok (D.bl (dIn d xs)) else .st) = Rs.ok r := by cases d <;> exact hr
      split at hr'
      · rename_i hz
        rw [Bool.and_eq_true] at hz
        cases hr'
        obtain ⟨p, vs, rfl, hp, rr⟩ := he.tup
        have e2 := rr.flat hz.2
        subst e2
        refine op_in_seq pins s σ H _ _ v u Q I rx ry ⟨p, _, rfl, .inr (hK ▸ hp), by rw [hd.flat hz.1]; exact flatV_vD hz.1, all_flatV hz.2, ?_⟩
        rw [hd.flat hz.1, inV_vD hz.1 hz.2]
        exact k _ rfl
      · cases hr'
    · rename_i xs
      have hr' : (if (okN 60 d && xs.all (okN 60)) = true then Rs.ok (D.bl (dIn d xs)) else .st) = Rs.ok r := by cases d <;> exact hr
      split at hr'
      · rename_i hz
        rw [Bool.and_eq_true] at hz
        cases hr'
        have hp := he.dp (n := 61) hz.2
        rw [pd] at hp
        refine op_inD hu pins s σ H _ _ v u Q I rx ry ⟨_, _, hK ▸ hd.dp hz.1, hK ▸ hp, shaped_pd hz.1 (by decide), shaped_lst hz.2, ?_⟩
        rw [any_pd hz.1 hz.2]
        exact k _ rfl
      · cases hr'
    · rename_i t kvs
      have hr' : (if okK t d = true then Rs.ok (D.bl (dFind kvs d).isSome) else .st) = Rs.ok r := by cases d <;> exact hr
      split at hr'
      · rename_i hz
        cases hr'
        cases t with
        | false =>
          obtain ⟨p, kv', rfl, hp, rr⟩ := he.dct rfl
          obtain ⟨ky, rfl⟩ := isK_kD (show isK d = true from hz)
          cases hd.key
          cases (show u = Value.ref p from ry)
          refine d_in (by omega) I (DGet.k hp) rx fun s' I' => ⟨.bl (valV kv' ky).isSome, H, I', rfl, ?_⟩
          rcases rr.find ky with ⟨e1, e2⟩ | ⟨v1, d1, e1, e2, _⟩
          · rw [e1]; rw [e2] at k; exact k _ rfl
          · rw [e1]; rw [e2] at k; exact k _ rfl
        | true =>
          have hz : isKT d = true := hz
          obtain ⟨p, xs, rfl, hp, rr⟩ := he.dctN
          obtain ⟨b, rfl, rk⟩ := isKT_ref hz hd
          cases (show u = Value.ref p from ry)
          cases (show v = Value.ref b from rx)
          refine n_in hu I hK hw hp rr hz rk fun s' I' => ⟨.bl ((atKey xs (nk d)).isSome), H, I', rfl, ?_⟩
          rcases rr.find hz with ⟨e1, e2⟩ | ⟨q, v1, d1, e1, _, e2, _⟩
          · rw [e1]; rw [e2] at k; exact k _ rfl
          · rw [e1]; rw [e2] at k; exact k _ rfl
      · cases hr'
  | notin =>
    cases e <;> try (cases d <;> cases hr; done)
    · rename_i z
      cases d <;> try (cases hr; done)
      rename_i w
      simp only [dCmp] at hr
      split at hr
      · rename_i c hc
        cases hr
        cases hd.str
        cases he.str
        obtain rfl : w = ⟨#[c]⟩ := Str.ext' (Array.toList_inj.mp hc)
        exact op_notIn_sign pins s σ H _ _ v u Q I rx ry ⟨c, z, rfl, rfl, k _ rfl⟩
      · cases hr
    · rename_i xs
      have hr' : (if (flatD d && xs.all flatD) = true then Rs.ok (D.bl (!dIn d xs)) else .st) = Rs.ok r := by cases d <;> exact hr
      split at hr'
      · rename_i hz
        rw [Bool.and_eq_true] at hz
        cases hr'
        obtain ⟨p, vs, rfl, hp, rr⟩ := he.tup
        have e2 := rr.flat hz.2
        subst e2
        refine op_notIn_seq pins s σ H _ _ v u Q I rx ry ⟨p, _, rfl, .inr (hK ▸ hp), by rw [hd.flat hz.1]; exact flatV_vD hz.1, all_flatV hz.2, ?_⟩
        rw [hd.flat hz.1, inV_vD hz.1 hz.2]
        exact k _ rfl
      · cases hr'
    · rename_i xs
      have hr' : (if (okN 60 d && xs.all (okN 60)) = true then Rs.ok (D.bl (!dIn d xs)) else .st) = Rs.ok r := by cases d <;> exact hr
      split at hr'
      · rename_i hz
        rw [Bool.and_eq_true] at hz
        cases hr'
        have hp := he.dp (n := 61) hz.2
        rw [pd] at hp
        refine op_notInD hu pins s σ H _ _ v u Q I rx ry ⟨_, _, hK ▸ hd.dp hz.1, hK ▸ hp, shaped_pd hz.1 (by decide), shaped_lst hz.2, ?_⟩
        rw [any_pd hz.1 hz.2]
        exact k _ rfl
      · cases hr'
    · rename_i t kvs
      have hr' : (if okK t d = true then Rs.ok (D.bl (!(dFind kvs d).isSome)) else .st) = Rs.ok r := by cases d <;> exact hr
      split at hr'
      · rename_i hz
        cases hr'
        cases t with
        | false =>
          obtain ⟨p, kv', rfl, hp, rr⟩ := he.dct rfl
          obtain ⟨ky, rfl⟩ := isK_kD (show isK d = true from hz)
          cases hd.key
          cases (show u = Value.ref p from ry)
          refine d_notIn (by omega) I (DGet.k hp) rx fun s' I' => ⟨.bl (!(valV kv' ky).isSome), H, I', rfl, ?_⟩
          rcases rr.find ky with ⟨e1, e2⟩ | ⟨v1, d1, e1, e2, _⟩
          · rw [e1]; rw [e2] at k; exact k _ rfl
          · rw [e1]; rw [e2] at k; exact k _ rfl
        | true =>
          have hz : isKT d = true := hz
          obtain ⟨p, xs, rfl, hp, rr⟩ := he.dctN
          obtain ⟨b, rfl, rk⟩ := isKT_ref hz hd
          cases (show u = Value.ref p from ry)
          cases (show v = Value.ref b from rx)
          refine n_notIn hu I hK hw hp rr hz rk fun s' I' => ⟨.bl (!(atKey xs (nk d)).isSome), H, I', rfl, ?_⟩
          rcases rr.find hz with ⟨e1, e2⟩ | ⟨q, v1, d1, e1, _, e2, _⟩
          · rw [e1]; rw [e2] at k; exact k _ rfl
          · rw [e1]; rw [e2] at k; exact k _ rfl
      · cases hr'
end
theorem dCmp_bl {o : Cop} {d e r : D} (h : dCmp o d e = .ok r) : ∃ b, r = .bl b := by
  unfold dCmp at h
  split at h <;> first
    | (split at h <;> first | (cases h; exact ⟨_, rfl⟩) | cases h)
    | (cases h; exact ⟨_, rfl⟩)
    | cases h
end PV
namespace PV
open PySem PySem.Spec PyProof.Rows L2

def RepBs (G : Wd) (O : Addr → Prop) (H : Hp) : List V → List D → Prop
  | [], [] => True
  | v :: vs, d :: ds => RepB G O H v d ∧ RepBs G O H vs ds
  | _, _ => False
/-- an item is handed out -/
def r2I (G : Wd) (f : D → D → Rs D) : R2 := fun x y H Q => ∃ O d e r, Trk O H ∧ RepB G O H x d ∧ RepB G O H y e ∧ f d e = .ok r ∧ ∀ v, Rep G O H v r → Q v H
theorem reps_ixN {G : Wd} {O : Addr → Prop} {H : Hp} {vs : List V} {ds : List D} {i : Int} {r : D} (h : Reps G O H vs ds) (e : atI ds i = some r) : ∃ v, atI vs i = some v ∧ Rep G O H v r := by
  unfold atI at e ⊢
  rw [h.length]
  cases q : ixN ds.length i with
  | none => rw [q] at e; cases e
  | some j =>
    rw [q] at e
    exact h.get (i := j) e
theorem cutV_reps {G : Wd} {O : Addr → Prop} {H : Hp} {vs : List V} {ds : List D} {lo hi : Option Int} (h : Reps G O H vs ds) : Reps G O H (cutV vs lo hi) (cutD ds lo hi) := by
  unfold cutV cutD
  rw [h.length]
  exact (h.drop _).take _
theorem cut_whole {xs : List D} {lo hi : Option Int} (h : HT.sIx xs.length 0 lo = 0 ∧ HT.sIx xs.length xs.length hi = xs.length) : cutD xs lo hi = xs := by
  unfold cutD
  rw [h.1, h.2]; simp
section
variable {X : Cx} {G : Wd}
theorem ix_all (hK : G.K = X.K) (hw : G.w = X.w) (hu : X.A.units + 65 < cLine) : IxR X (r2I G dIx) := by
  intro value slice pins s σ H x y v u Q I rx ry h hs
  obtain ⟨O, d, e, r, hT, hd, he, hr, k⟩ := h
  cases d <;> try (cases e <;> cases hr; done)
  · cases e <;> try (cases hr; done)
    rename_i z i
    simp only [dIx] at hr
    cases hd.str; cases he.int
    split at hr
    · rename_i hz
      split at hr
      · rename_i c hc
        cases hr
        exact ix_str value slice pins s σ H _ _ v u Q I rx ry ⟨_, _, c, rfl, rfl, hz, hc, k _ (.str _)⟩ hs
      · cases hr
    · cases hr
  · cases e <;> try (cases hr; done)
    rename_i ds i
    simp only [dIx] at hr
    cases he.int
    split at hr
    · rename_i c hc
      cases hr
      obtain ⟨p, xs, rfl, hp, rr⟩ := hd.tup
      obtain ⟨w, ew, rw'⟩ := reps_ixN rr hc
      exact ix_tup value slice pins s σ H _ _ v u Q I rx ry ⟨p, _, _, _, rfl, rfl, hK ▸ hp, ew, k _ rw'⟩ hs
    · cases hr
  · cases e <;> try (cases hr; done)
    rename_i ds i
    simp only [dIx] at hr
    cases he.int
    split at hr
    · rename_i c hc
      cases hr
      obtain ⟨p, xs, rfl, hp, rr⟩ := hd.lst
      obtain ⟨w, ew, rw'⟩ := reps_ixN rr hc
      exact ix_list value slice pins s σ H _ _ v u Q I rx ry ⟨p, _, _, _, rfl, rfl, hK ▸ hp, ew, k _ rw'⟩ hs
    · cases hr
  · rename_i t kvs
    have hr' : (if okK t e = true then (match dFind kvs e with | some d => Rs.ok d | none => .st) else .st) = Rs.ok r := by cases e <;> exact hr
    split at hr'
    · rename_i hz
      cases t with
      | false =>
        obtain ⟨p, kv', rfl, hp, rr⟩ := hd.dct rfl
        obtain ⟨ky, rfl⟩ := isK_kD (show isK e = true from hz)
        cases he.key
        obtain rfl : v = Value.ref p := rx
        rcases rr.find ky with ⟨e1, e2⟩ | ⟨v1, d1, e1, e2, r1⟩
        · rw [e2] at hr'; cases hr'
        · rw [e2] at hr'
          cases hr'
          have g : DGet H p (kV ky) (some v1) := by rw [← e1]; exact DGet.k hp
          exact tail_any (dict_typeIs I g) PySem.F.slot_dict_getitem.lookup (d_getItem (by omega) I g ry fun w' s' I' rw' => ⟨v1, H, I', rw', k _ r1⟩) hs
      | true =>
        have hz : isKT e = true := hz
        obtain ⟨p, xs, rfl, hp, rr⟩ := hd.dctN
        obtain ⟨b, rfl, rk⟩ := isKT_ref hz he
        obtain rfl : v = Value.ref p := rx
        obtain rfl : u = Value.ref b := ry
        rcases rr.find hz with ⟨e1, e2⟩ | ⟨q, v1, d1, e1, rq, e2, r1⟩
        · rw [e2] at hr'; cases hr'
        · rw [e2] at hr'
          cases hr'
          exact tail_any (dn_of I hK hw hp rr).1.typeIs PySem.F.slot_dict_getitem.lookup (n_getItem hu I hK hw hp rr hz rk e1 fun s' I' => ⟨v1, H, I', rq, k _ r1⟩) hs
    · cases hr'
  · cases e <;> try (cases hr; done)
    rename_i ds z
    simp only [dIx] at hr
    obtain ⟨p, kv', rfl, hp, rr⟩ := hd.gdc
    cases he.str
    have e0 : D.str z = kD (.inr z) := rfl
    rw [e0] at hr
    rcases rr.find (.inr z) with ⟨e1, e2⟩ | ⟨v1, d1, e1, e2, r1⟩
    · rw [e2] at hr; cases hr
    · rw [e2] at hr
      cases hr
      exact ix_kdict value slice pins s σ H _ _ v u Q I rx ry ⟨p, z, v1, rfl, rfl, hK ▸ hw ▸ hp z v1 e1, k _ r1⟩ hs
  · cases e <;> try (cases hr; done)
    rename_i ds i
    simp only [dIx] at hr
    cases he.int
    split at hr
    · rename_i c hc
      cases hr
      obtain ⟨p, xs, rfl, hp, _, rr⟩ := hd.gtp
      obtain ⟨w, ew, rw'⟩ := reps_ixN rr hc
      exact ix_tup value slice pins s σ H _ _ v u Q I rx ry ⟨p, _, _, _, rfl, rfl, hK ▸ hp H, ew, k _ rw'⟩ hs
    · cases hr
/-- slices -/
def rSl (G : Wd) : V → Option Int → Option Int → Hp → VK → Prop := fun x lo hi H Q => ∃ O d r, Trk O H ∧ RepB G O H x d ∧ dSl d lo hi = .ok r ∧ ∀ v H', Same H H' → RetO true G O H H' v r → Q v H'
theorem sl_all (hK : G.K = X.K) : SlR X (rSl G) := by
  intro pins s σ H x v vl vu lo hi sl Q I rx hs pl pu h
  obtain ⟨O, d, r, hT, hd, hr, k⟩ := h
  cases d <;> try (cases hr; done)
  · simp only [dSl] at hr
    cases hd.str
    split at hr
    · rename_i hz
      cases hr
      exact sl_str pins s σ H _ v vl vu lo hi sl Q I rx hs pl pu ⟨_, rfl, hz, k _ H (Same.refl H) (.of_rep (.str _) rfl)⟩
    · cases hr
  · rename_i ds
    cases hr
    obtain ⟨p, xs, rfl, hp, rr⟩ := hd.tup
    have el := rr.length
    refine sl_tupA pins s σ H _ v vl vu lo hi sl Q I rx hs pl pu ⟨p, xs, rfl, hK ▸ hp, fun z => ?_, fun z p' hp' => ?_⟩
    · rw [el] at z
      refine k _ H (Same.refl H) (.of_rep ?_ rfl)
      rw [cut_whole z]
      exact hd.rep rfl
    · exact k _ _ (same_new hp') (.of_rep (new_tup hT hp' (cutV_reps rr)) rfl)
  · rename_i ds
    cases hr
    obtain ⟨p, xs, rfl, hp, rr⟩ := hd.lst
    exact sl_list pins s σ H _ v vl vu lo hi sl Q I rx hs pl pu ⟨p, xs, rfl, hK ▸ hp, fun p' hp' => k _ _ (same_new hp') (new_lst hp' (cutV_reps rr))⟩
/-- built-in functions -/
def rBi (G : Wd) (b : Bi) : List V → Hp → VK → Prop := fun xs H Q => ∃ O ds r, Trk O H ∧ RepBs G O H xs ds ∧ dBi b ds = .ok r ∧ ∀ v H', Same H H' → RetO true G O H H' v r → Q v H'
def Bi.val : Bi → Value
  | .len => .builtin "len" | .abs => .builtin "abs" | .max2 => .builtin "max" | .min2 => .builtin "min" | .int1 => .type "int" | .str1 => .type "str" | .list1 => .type "list" | .tuple1 => .type "tuple"
  | .divmod => .builtin "divmod" | .sum => .builtin "sum" | .all => .builtin "all" | .any => .builtin "any" | .max1 => .builtin "max" | .min1 => .builtin "min" | .sorted1 => .builtin "sorted"
theorem RepBs.one {O : Addr → Prop} {H : Hp} {xs : List V} {d : D} (h : RepBs G O H xs [d]) : ∃ x, xs = [x] ∧ RepB G O H x d := by
  cases xs with
  | nil => exact h.elim
  | cons x xs =>
    cases xs with
    | nil => exact ⟨x, rfl, h.1⟩
    | cons _ _ => exact h.2.elim
theorem RepBs.two {O : Addr → Prop} {H : Hp} {xs : List V} {d e : D} (h : RepBs G O H xs [d, e]) : ∃ x y, xs = [x, y] ∧ RepB G O H x d ∧ RepB G O H y e := by
  cases xs with
  | nil => exact h.elim
  | cons x xs =>
    obtain ⟨y, rfl, hy⟩ := RepBs.one h.2
    exact ⟨x, y, rfl, h.1, hy⟩
theorem reps_ints {O : Addr → Prop} {H : Hp} : ∀ {vs : List V} {ds : List D} {ns : List Int}, Reps G O H vs ds → dInts ds = some ns → vs = ns.map V.int
  | _, _, _, .nil, e => by cases e; rfl
  | _, d :: ds, _, .cons h r, e => by
    cases d <;> try (cases e; done)
    cases h
    cases q : dInts ds with
    | none => simp [dInts, q] at e
    | some m =>
      simp [dInts, q] at e
      subst e
      rw [reps_ints r q]; rfl
theorem reps_bls {O : Addr → Prop} {H : Hp} : ∀ {vs : List V} {ds : List D} {ns : List Bool}, Reps G O H vs ds → dBls ds = some ns → vs = ns.map V.bl
  | _, _, _, .nil, e => by cases e; rfl
  | _, d :: ds, _, .cons h r, e => by
    cases d <;> try (cases e; done)
    cases h
    cases q : dBls ds with
    | none => simp [dBls, q] at e
    | some m =>
      simp [dBls, q] at e
      subst e
      rw [reps_bls r q]; rfl
theorem call_divmodN : CallR X (.builtin "divmod") (fun xs H Q => ∃ i j, xs = [.int i, .int j] ∧ (j ≠ 0 ∧ j.natAbs < 1073741824) ∧ ∀ p, H p = none → Q (.ref p) (upd H p (.tup [.int (i.fdiv j), .int (i.fmod j)]))) := by
  intro pins s σ H xs us Q I r h
  obtain ⟨i, j, rfl, ⟨h1, h2⟩, q⟩ := h
  obtain ⟨u, w', rfl, ⟨t, rfl⟩, ⟨t', rfl⟩⟩ := vals2 r
  refine divmod_int h1 ?_ (.inl (PyProof.noPylong_small h2))
  have hn : H s.heap.objs.size = none := I.hok.fresh (Nat.le_refl _)
  refine ⟨.ref s.heap.objs.size, _, ?_, rfl, q _ hn⟩
  refine I.laid (fun b o e => Heap.get?_push_of_some _ e) (Nat.le_refl _) ⟨by simp only [List.length_cons, List.length_nil]; rw [sizeLine_eq]; decide, [.int (i.fdiv j) s.toks, .int (i.fmod j) (s.toks + 1)], .cons ⟨_, rfl⟩ (.cons ⟨_, rfl⟩ .nil), ?_⟩
  exact ⟨_, Heap.get?_push_size s.heap rfl, rfl, 0, rfl⟩
theorem reps_nums {O : Addr → Prop} {H : Hp} : ∀ ns : List Int, Reps G O H (ns.map V.int) (ns.map D.int)
  | [] => .nil
  | _ :: l => .cons (.int _) (reps_nums l)
theorem insI_perm (x : Int) : ∀ l : List Int, (insI x l).Perm (x :: l)
  | [] => .refl _
  | y :: l => by
    unfold insI
    split
    · exact .refl _
    · exact ((insI_perm x l).cons y).trans (.swap x y l)
theorem insI_mem {x z : Int} {l : List Int} (h : z ∈ insI x l) : z = x ∨ z ∈ l := by
  have := (insI_perm x l).mem_iff.mp h
  exact List.mem_cons.mp this
theorem insI_sorted (x : Int) : ∀ l : List Int, l.Pairwise (· ≤ ·) → (insI x l).Pairwise (· ≤ ·)
  | [], _ => by simp [insI]
  | y :: l, h => by
    obtain ⟨h1, h2⟩ := List.pairwise_cons.mp h
    unfold insI
    split
    · rename_i z
      exact List.pairwise_cons.mpr ⟨fun w hw => (List.mem_cons.mp hw).elim (fun e => e ▸ z) (fun e => Int.le_trans z (h1 w e)), h⟩
    · rename_i z
      refine List.pairwise_cons.mpr ⟨fun w hw => ?_, insI_sorted x l h2⟩
      rcases insI_mem hw with e | e
      · rw [e]; omega
      · exact h1 w e
theorem isort_perm : ∀ l : List Int, (isort l).Perm l
  | [] => .refl _
  | x :: l => (insI_perm x (isort l)).trans ((isort_perm l).cons x)
theorem isort_sorted : ∀ l : List Int, (isort l).Pairwise (· ≤ ·)
  | [] => .nil
  | x :: l => insI_sorted x _ (isort_sorted l)
theorem isort_of {l m : List Int} (h1 : m.Perm l) (h2 : m.Pairwise (· ≤ ·)) : isort l = m :=
  List.Perm.eq_of_pairwise (fun a b _ _ q r => Int.le_antisymm q r) (isort_sorted l) h2 ((isort_perm l).trans h1.symm)
theorem bi_all (b : Bi) (hK : G.K = X.K) (hw : G.w = X.w) (hc : b.cool = true ∨ X.calm = true) : CallR X b.val (rBi G b) := by
  intro pins s σ H xs us Q I rv h
  obtain ⟨O, ds, r, hT, hd, hr, k⟩ := h
  have k1 : ∀ i, r = .int i → Q (.int i) H := fun i z => k _ H (Same.refl H) (by rw [z]; exact retI)
  have kb : ∀ i, r = .bl i → Q (.bl i) H := fun i z => k _ H (Same.refl H) (by rw [z]; exact .of_rep (.bl i) rfl)
  cases b <;> cases ds with
  | nil => cases hr
  | cons d ds => ?_
  case len =>
    cases ds with
    | cons e es => cases d <;> cases hr
    | nil =>
      obtain ⟨x, rfl, hx⟩ := hd.one
      cases d <;> try (cases hr; done)
      · cases hx.str
        simp only [dBi] at hr
        split at hr
        · rename_i hz
          cases hr
          exact call_len_str pins s σ H _ us Q I rv ⟨_, rfl, hz, k1 _ rfl⟩
        · cases hr
      · cases hr
        obtain ⟨p, ys, rfl, hp, rr⟩ := hx.tup
        refine call_len_seq pins s σ H _ us Q I rv ⟨p, ys, rfl, .inr (hK ▸ hp), ?_⟩
        rw [rr.length]; exact k1 _ rfl
      · cases hr
        obtain ⟨p, ys, rfl, hp, rr⟩ := hx.lst
        refine call_len_seq pins s σ H _ us Q I rv ⟨p, ys, rfl, .inl (hK ▸ hp), ?_⟩
        rw [rr.length]; exact k1 _ rfl
      · simp only [dBi] at hr
        split at hr
        · rename_i hz
          cases hr
          obtain ⟨u, rfl, ru⟩ := rv.one
          exact d_lenD I hK hw hx ru hz fun tk s' I' => ⟨.int _, H, I', ⟨_, rfl⟩, k1 _ rfl⟩
        · cases hr
      · cases hr
        obtain ⟨p, ys, rfl, hp, _, rr⟩ := hx.gtp
        refine call_len_seq pins s σ H _ us Q I rv ⟨p, ys, rfl, .inr (hK ▸ hp H), ?_⟩
        rw [rr.length]; exact k1 _ rfl
      · cases hr
        obtain ⟨p, ys, rfl, hp, hl, _⟩ := hx.nst
        refine call_len_seq pins s σ H _ us Q I rv ⟨p, ys, rfl, .inl (hK ▸ hp), ?_⟩
        rw [hl]; exact k1 _ rfl
  case abs =>
    cases ds with
    | cons e es => cases d <;> cases hr
    | nil =>
      obtain ⟨x, rfl, hx⟩ := hd.one
      cases d <;> try (cases hr; done)
      cases hx.int; cases hr
      exact call_abs pins s σ H _ us Q I rv ⟨_, rfl, k1 _ rfl⟩
  case int1 =>
    cases ds with
    | cons e es => cases d <;> cases hr
    | nil =>
      obtain ⟨x, rfl, hx⟩ := hd.one
      cases d <;> try (cases hr; done)
      · cases hx.bl; cases hr
        exact call_int1 pins s σ H _ us Q I rv (.inr ⟨_, rfl, k1 _ rfl⟩)
      · cases hx.int; cases hr
        exact call_int1 pins s σ H _ us Q I rv (.inl ⟨_, rfl, k1 _ rfl⟩)
      · cases hx.str
        simp only [dBi] at hr
        split at hr
        · rename_i n hn
          split at hr
          · rename_i hz
            cases hr
            exact call_int_str pins s σ H _ us Q I rv ⟨_, n, rfl, hn, hz, k1 _ rfl⟩
          · cases hr
        · cases hr
  case str1 =>
    cases ds with
    | cons e es => cases d <;> cases hr
    | nil =>
      obtain ⟨x, rfl, hx⟩ := hd.one
      cases d <;> try (cases hr; done)
      cases hx.int
      simp only [dBi] at hr
      split at hr
      · rename_i hz
        cases hr
        exact call_str_int pins s σ H _ us Q I rv ⟨_, rfl, hz, k _ H (Same.refl H) (.of_rep (.str _) rfl)⟩
      · cases hr
  case list1 =>
    cases ds with
    | cons e es => cases d <;> cases hr
    | nil =>
      obtain ⟨x, rfl, hx⟩ := hd.one
      cases d <;> try (cases hr; done)
      · cases hr
        obtain ⟨p, ys, rfl, hp, rr⟩ := hx.tup
        exact call_list_of pins s σ H _ us Q I rv ⟨p, ys, rfl, .inr (hK ▸ hp), fun l hl => k _ _ (same_new hl) (new_lst hl rr)⟩
      · cases hr
        obtain ⟨p, ys, rfl, hp, rr⟩ := hx.lst
        exact call_list_of pins s σ H _ us Q I rv ⟨p, ys, rfl, .inl (hK ▸ hp), fun l hl => k _ _ (same_new hl) (new_lst hl rr)⟩
  case tuple1 =>
    cases ds with
    | cons e es => cases d <;> cases hr
    | nil =>
      obtain ⟨x, rfl, hx⟩ := hd.one
      cases d <;> try (cases hr; done)
      · cases hr
        have hx' := hx.rep rfl
        obtain ⟨p, ys, rfl, hp, rr⟩ := hx.tup
        exact call_tuple_of pins s σ H _ us Q I rv ⟨p, ys, rfl, .inr ⟨hK ▸ hp, k _ H (Same.refl H) (.of_rep hx' rfl)⟩⟩
      · cases hr
        obtain ⟨p, ys, rfl, hp, rr⟩ := hx.lst
        exact call_tuple_of pins s σ H _ us Q I rv ⟨p, ys, rfl, .inl ⟨hK ▸ hp, fun l hl => k _ _ (same_new hl) (.of_rep (new_tup hT hl rr) rfl)⟩⟩
  case sum =>
    cases ds with
    | cons e es => cases d <;> cases hr
    | nil =>
      obtain ⟨x, rfl, hx⟩ := hd.one
      cases d <;> try (cases hr; done)
      simp only [dBi] at hr
      split at hr
      · rename_i ns hz
        cases hr
        obtain ⟨p, ys, rfl, hp, rr⟩ := hx.lst
        have := reps_ints rr hz
        subst this
        exact cr_sum (hc.resolve_left fun z => by cases z) pins s σ H _ us Q I rv ⟨p, ns, rfl, hK ▸ hp, k1 _ rfl⟩
      · cases hr
  case all =>
    cases ds with
    | cons e es => cases d <;> cases hr
    | nil =>
      obtain ⟨x, rfl, hx⟩ := hd.one
      cases d <;> try (cases hr; done)
      simp only [dBi] at hr
      split at hr
      · rename_i ns hz
        cases hr
        obtain ⟨p, ys, rfl, hp, rr⟩ := hx.lst
        have := reps_bls rr hz
        subst this
        exact cr_all (hc.resolve_left fun z => by cases z) pins s σ H _ us Q I rv ⟨p, ns, rfl, hK ▸ hp, kb _ rfl⟩
      · cases hr
  case any =>
    cases ds with
    | cons e es => cases d <;> cases hr
    | nil =>
      obtain ⟨x, rfl, hx⟩ := hd.one
      cases d <;> try (cases hr; done)
      simp only [dBi] at hr
      split at hr
      · rename_i ns hz
        cases hr
        obtain ⟨p, ys, rfl, hp, rr⟩ := hx.lst
        have := reps_bls rr hz
        subst this
        exact cr_any (hc.resolve_left fun z => by cases z) pins s σ H _ us Q I rv ⟨p, ns, rfl, hK ▸ hp, kb _ rfl⟩
      · cases hr
  case max2 =>
    cases ds with
    | nil => cases d <;> cases hr
    | cons e es =>
      cases es with
      | cons _ _ => cases d <;> (first | (cases hr; done) | (cases e <;> cases hr))
      | nil =>
        obtain ⟨x, y, rfl, hx, hy⟩ := hd.two
        cases d <;> (try (cases hr; done)) <;> cases e <;> try (cases hr; done)
        cases hx.int; cases hy.int; cases hr
        exact call_max2 (hc.resolve_left fun z => by cases z) pins s σ H _ us Q I rv ⟨_, _, rfl, k1 _ rfl⟩
  case min2 =>
    cases ds with
    | nil => cases d <;> cases hr
    | cons e es =>
      cases es with
      | cons _ _ => cases d <;> (first | (cases hr; done) | (cases e <;> cases hr))
      | nil =>
        obtain ⟨x, y, rfl, hx, hy⟩ := hd.two
        cases d <;> (try (cases hr; done)) <;> cases e <;> try (cases hr; done)
        cases hx.int; cases hy.int; cases hr
        exact call_min2 (hc.resolve_left fun z => by cases z) pins s σ H _ us Q I rv ⟨_, _, rfl, k1 _ rfl⟩
  case divmod =>
    cases ds with
    | nil => cases d <;> cases hr
    | cons e es =>
      cases es with
      | cons _ _ => cases d <;> (first | (cases hr; done) | (cases e <;> cases hr))
      | nil =>
        obtain ⟨x, y, rfl, hx, hy⟩ := hd.two
        cases d <;> (try (cases hr; done)) <;> cases e <;> try (cases hr; done)
        rename_i i j
        cases hx.int; cases hy.int
        simp only [dBi] at hr
        split at hr
        · rename_i hz
          cases hr
          refine call_divmodN pins s σ H _ us Q I rv ⟨_, _, rfl, hz, fun p hp => k _ _ (same_new hp) (.of_rep ?_ rfl)⟩
          have e1 : idiv i j = i.fdiv j := by
            unfold idiv; split
            · rw [Int.fdiv_eq_ediv_of_nonneg i (by omega)]
            · rfl
          have e2 : imod i j = i.fmod j := by
            unfold imod; split
            · rw [Int.fmod_eq_emod_of_nonneg i (by omega)]
            · rfl
          rw [e1, e2]
          exact new_tup hT hp (.cons (.int _) (.cons (.int _) .nil))
        · cases hr
  case max1 => cases ds <;> cases d <;> cases hr
  case min1 => cases ds <;> cases d <;> cases hr
  case sorted1 =>
    cases ds with
    | cons e es => cases d <;> cases hr
    | nil =>
      obtain ⟨x, rfl, hx⟩ := hd.one
      cases d <;> try (cases hr; done)
      simp only [dBi] at hr
      split at hr
      · rename_i ns hz
        cases hr
        obtain ⟨p, ys, rfl, hp, rr⟩ := hx.lst
        have := reps_ints rr hz
        subst this
        refine cr_sortedI pins s σ H _ us Q I rv ⟨p, ns, rfl, hK ▸ hp, fun ns' q h1 h2 hq => ?_⟩
        rw [isort_of h1 h2] at k
        exact k _ _ (same_new hq) (new_lst hq (reps_nums ns'))
      · cases hr
/-- isinstance -/
def Ty.py : Ty → String
  | .int => "int" | .bool => "bool" | .str => "str" | .tuple => "tuple" | .list => "list"
theorem tyx {O : Addr → Prop} {H : Hp} {x : V} {d : D} {t : Ty} {b : Bool} (h : RepB G O H x d) (e : tyIs d t = .ok b) : ∃ u, TyX G.K H x u ∧ PySem.W.kitOne G.K u (.type t.py) = some b := by
  cases d with
  | non => cases h.non; refine ⟨_, .base .non, kit_ty ?_⟩; cases t <;> cases e <;> decide +kernel
  | bl y => cases h.bl; refine ⟨_, .base (.bl _), kit_ty ?_⟩; cases t <;> cases e <;> decide +kernel
  | int y => cases h.int; refine ⟨_, .base (.int _), kit_ty ?_⟩; cases t <;> cases e <;> decide +kernel
  | str y => cases h.str; refine ⟨_, .base (.str _), kit_ty ?_⟩; cases t <;> cases e <;> decide +kernel
  | tup ds =>
    have hk : PySem.W.kitOne G.K (.type "tuple") (.type t.py) = some b := kit_ty (by cases t <;> cases e <;> decide +kernel)
    have h' := h.rep rfl
    cases h' with
    | tupH r n _ =>
      rcases r with r | ⟨o, r⟩
      · exact ⟨_, .base (.tup r), hk⟩
      · exact ⟨_, .fTuple r, hk⟩
    | tupK r _ =>
      rcases r (fun _ => none) with (z | ⟨_, z⟩) | ⟨o, its, n, h1, h2, _⟩
      · cases z
      · cases z
      · exact ⟨_, .kTuple h1 h2, hk⟩
  | lst ds =>
    have hk : PySem.W.kitOne G.K (.type "list") (.type t.py) = some b := kit_ty (by cases t <;> cases e <;> decide +kernel)
    obtain ⟨p, xs, rfl, r, _⟩ := h.lst
    rcases r with (r | ⟨o, r⟩) | ⟨o, its, n, h1, h2, _⟩
    · exact ⟨_, .base (.lst r), hk⟩
    · exact ⟨_, .base (.frz r), hk⟩
    · exact ⟨_, .kList h1 h2, hk⟩
  | dct _ _ => cases e
  | gdc _ => cases e
  | gtp _ => cases e
  | ins _ => cases e
  | exc _ _ => cases e
  | nst _ => cases e
  | ndc _ => cases e
  | obj _ _ => cases e
end
end PV
namespace PV
open PySem PySem.Spec PyProof.Rows L2

/-! ### flat data lean on tuples alone -/
theorem flatN_at {n : Nat} {xs : List D} (h : flatN n (.tup xs) = true) : ∃ m, n = m + 1 ∧ xs.all (flatN m) = true := by
  cases n with
  | zero => cases h
  | succ m => exact ⟨m, rfl, h⟩
section
variable {G : Wd} {O O' : Addr → Prop} {H : Hp}
mutual
theorem Rep.flatUp (t : Trk O H) : ∀ {n : Nat} {v : V} {d : D}, Rep G O' H v d → flatN n d = true → Rep G O H v d
  | _, _, _, .non, _ => .non
  | _, _, _, .bl b, _ => .bl b
  | _, _, _, .int b, _ => .int b
  | _, _, _, .str b, _ => .str b
  | n, _, _, .tupH r _ h, e => by
    obtain ⟨m, _, e'⟩ := flatN_at e
    refine .tupH r (fun o => ?_) (Reps.flatUp t h e')
    obtain ⟨u, hu, hm⟩ := t _ o
    rcases r with r | ⟨_, r⟩
    · rw [r] at hu; cases hu; cases hm
    · rw [r] at hu; cases hu; cases hm
  | n, _, _, .tupK r h, e => by
    obtain ⟨m, _, e'⟩ := flatN_at e
    exact .tupK r (Reps.flatUp t h e')
  | n, _, _, .lst _ _ _, e => by cases n <;> cases e
  | n, _, _, .lstK _ _, e => by cases n <;> cases e
  | n, _, _, .dK _ _ _, e => by cases n <;> cases e
  | n, _, _, .dT _ _ _, e => by cases n <;> cases e
  | n, _, _, .ins _ _, e => by cases n <;> cases e
  | n, _, _, .exc _ _ _ _ _, e => by cases n <;> cases e
  | n, _, _, .nst _, e => by cases n <;> cases e
  | n, _, _, .ndc _, e => by cases n <;> cases e
  | n, _, _, .obj, e => by cases n <;> cases e
  | n, _, _, .dG _ _, e => by cases n <;> cases e
  | n, _, _, .gT _ _ _, e => by cases n <;> cases e
theorem Reps.flatUp (t : Trk O H) : ∀ {n : Nat} {vs : List V} {ds : List D}, Reps G O' H vs ds → ds.all (flatN n) = true → Reps G O H vs ds
  | _, _, _, .nil, _ => .nil
  | n, _, _, .cons h r, e => by
    rw [List.all_cons, Bool.and_eq_true] at e
    exact .cons (Rep.flatUp t h e.1) (Reps.flatUp t r e.2)
end
theorem RetO.up1 {H0 : Hp} {v : V} {d : D} (h : RetO true G O' H0 H v d) (t : Trk O H) (f : flat1 d = true) : RetO true G O H0 H v d := by
  rcases h with ⟨p, F, e, hp, h⟩ | ⟨m, h⟩
  · obtain ⟨xs, rfl⟩ : ∃ xs, d = .lst xs := by
      have := h.mut
      cases d <;> first | exact ⟨_, rfl⟩ | (cases f; done) | (cases this; done)
    obtain ⟨ys, hq, r⟩ := h.lst
    refine .inl ⟨p, F, e, hp, .mkL hq h.1 h.2.1 (r.flatUp (n := 40) (fun a o => ?_) f)⟩
    rcases o with o | o
    · exact t a o
    · exact h.2.1 a o
  · refine .inr ⟨m, ?_⟩
    have f' : flatN 40 d = true := by cases d <;> first | exact f | cases m
    exact h.flatUp t f'
theorem flatN_mut {n : Nat} {d : D} (h : flatN n d = true) : isMut d = false := by
  cases d <;> first | rfl | (cases n <;> cases h)
theorem flatN_1 {d : D} (h : flatN 40 d = true) : flat1 d = true := by
  cases d <;> first | exact h | cases h
theorem RetO.up {H0 : Hp} {r : Bool} {v : V} {d : D} (h : RetO r G O' H0 H v d) (t : Trk O H) (f : flatN 40 d = true) : RetO r G O H0 H v d := by
  cases r with
  | true => exact RetO.up1 h t (flatN_1 f)
  | false => exact Rep.flatUp (n := 40) t h f
end

end PV
namespace PV
open PySem PySem.Spec PyProof.Rows L2

/-- what holds of a def's text, and the exception that is handled around it -/
structure Wh extends Wd where
  hd : Option Addr := none
instance : Coe Wh Wd := ⟨Wh.toWd⟩

/-- others' own addresses; those of the own slots; where the first slot stands (a def that changes its first argument) -/
structure Ev where
  own : Addr → Prop
  fp : Nat → Addr → Prop
  pr : Option Addr
/-- whose lists and dicts are own: those of slots S, and E's -/
def OS (S : List Nat) (E : Ev) (σ : L2.St) : Addr → Prop := fun a => E.own a ∨ ∃ i, i ∈ S ∧ E.fp i a
structure J (G : Wh) (S : List Nat) (E : Ev) (B : Hp) (σ : L2.St) (H : Hp) (δ : Env) : Prop where
  len : σ.length = δ.length
  fz : ∀ i d, i ∉ S → δ[i]? = some (some d) → ∃ v, σ[i]? = some (some v) ∧ Rep G (OS S E σ) H v d
  ow : ∀ i, i ∈ S → ∃ p d, σ[i]? = some (some (.ref p)) ∧ δ[i]? = some (some d) ∧ (∀ a, E.fp i a → ¬ E.own a) ∧ Own G (OS S E σ) (E.fp i) H p d
  dj : ∀ i j, i ∈ S → j ∈ S → i ≠ j → ∀ a, E.fp i a → ¬ E.fp j a
  ex : Trk E.own H
  bs : ∀ a u, B a = some u → H a = some u ∧ ¬ ∃ i, i ∈ S ∧ E.fp i a
  pz : ∀ p, E.pr = some p → 0 ∈ S → σ[0]? = some (some (.ref p))
  ht : ∀ a, G.hd = some a → (∃ C dx, H a = some (xO C a dx)) ∧ ¬ OS S E σ a
/-- the same but for the own slots' addresses -/
def Sm (E E' : Ev) : Prop := E'.own = E.own ∧ E'.pr = E.pr
theorem Sm.refl (E : Ev) : Sm E E := ⟨rfl, rfl⟩
theorem Sm.trans {E E' E'' : Ev} (a : Sm E E') (b : Sm E' E'') : Sm E E'' := ⟨b.1.trans a.1, b.2.trans a.2⟩
section
variable {G : Wh} {S : List Nat} {E : Ev} {B : Hp} {σ σ' : L2.St} {H H' : Hp} {δ : Env}
theorem J.trk (j : J G S E B σ H δ) : Trk (OS S E σ) H := fun a o => by
  rcases o with o | ⟨i, hi, e⟩
  · exact j.ex a o
  · obtain ⟨p, d, e', _, _, h⟩ := j.ow i hi
    exact h.2.1 a e
theorem J.same (j : J G S E B σ H δ) (s : Same H H') : J G S E B σ H' δ :=
  ⟨j.len, fun i d hi e => let ⟨v, e', r⟩ := j.fz i d hi e; ⟨v, e', r.same s⟩, fun i hi => let ⟨p, d, e, e', n, r⟩ := j.ow i hi; ⟨p, d, e, e', n, r.same s⟩, j.dj, j.ex.same s,
    fun a u e => ⟨s a u (j.bs a u e).1, (j.bs a u e).2⟩, j.pz, fun a e => let ⟨⟨C, dx, q⟩, n⟩ := j.ht a e; ⟨⟨C, dx, s a _ q⟩, n⟩⟩
theorem J.sameB (j : J G S E B σ H δ) : Same B H := fun a u e => (j.bs a u e).1
/-- more addresses of others' own: new ones -/
theorem J.moreE {P' : Addr → Prop} (j : J G S E B σ H δ) (h : ∀ a, P' a → E.own a ∨ H a = none) (hs : ∀ a, E.own a → P' a) (s : Same H H') (t : Trk P' H') : J G S { E with own := P' } B σ H' δ := by
  have x : Ext (OS S E σ) H (OS S { E with own := P' } σ) H' := fun a u e n => ⟨s a u e, fun o => by
    rcases o with o | o
    · rcases h a o with o | o
      · exact n (.inl o)
      · rw [o] at e; cases e
    · exact n (.inr o)⟩
  refine ⟨j.len, fun i d hi e => let ⟨v, e', r⟩ := j.fz i d hi e; ⟨v, e', r.ext x⟩, fun i hi => ?_, j.dj, t, fun a u e => ⟨s a u (j.bs a u e).1, (j.bs a u e).2⟩, j.pz, fun a e => let ⟨⟨C, dx, q⟩, n⟩ := j.ht a e; ⟨⟨C, dx, s a _ q⟩, (x a _ q n).2⟩⟩
  obtain ⟨p, d, e, e', n, r⟩ := j.ow i hi
  refine ⟨p, d, e, e', fun a f z => ?_, r.ext x fun a u _ q => s a u q⟩
  rcases h a z with z | z
  · exact n a f z
  · obtain ⟨u, q, _⟩ := r.2.1 a f
    rw [z] at q; cases q
end

def plainN (x : Str) : Bool := !(x == ("__debug__" : Str)) && !(x == ("__classdict__" : Str)) && !(x == ("__name__" : Str))
/-- what a def hands back: no list of its own; a new one, perhaps; the same, and its first argument changed -/
inductive Rt where
  | frz | new | chg
  deriving DecidableEq
def Rt.b : Rt → Bool
  | .new => true
  | _ => false
/-- the names of a def, the numbered defs (is the result new?) and constants, the built-in names that are free -/
structure Cn where
  N : List Str
  fn : List (Str × Bool)
  gl : List Str
  bl : List Str
  cs : List Str
  ms : List (Nat × Str × Nat)
  ia : List (Nat × Nat × Bool)
  fm : List (Nat × Str) := []
  /-- an exception is handled: what may be called then -/
  hot : Bool := false
  hfn : List Nat := []
  /-- targets of isinstance and except (an own class, by its number, or ValueError), their answers, classes that are raised, fields -/
  xt : List (Str × Option Nat) := []
  xq : List (Nat × Option Nat × Bool) := []
  xr : List (Nat × Str) := []
  xf : List (Nat × Str) := []
/-- a def of the module's top (methods have a dot in their name here) -/
def isG (x : Str) : Bool := x.cps.toList.all fun c => decide (c ≠ 46)
/-- the dict of an exception of class c -/
def ErrO (G : Wd) (c : Nat) (n : Int) (dd : Addr) (H : Hp) : Prop := ∃ f, G.xn c = some f ∧ H dd = some (.xd [(f, .int n)])
def Spv (G : Wd) (F : Nat → List D → Rs D) (f : Nat) (r : Bool) (vs : List V) (H : Hp) (Q : VK) (E : XK) : Prop :=
  ∃ O ds x, Trk O H ∧ Reps G O H vs ds ∧ F f ds = x ∧ match x with
    | .ok d => ∀ v H', Same H H' → RetO r G O H H' v d → Q v H'
    | .er c n => ∀ dd H', Same H H' → H dd = none → ErrO G c n dd H' → E (.ref (G.cl c)) (some dd) H'
    | .st => False
theorem Spv.ok {G : Wd} {F : Nat → List D → Rs D} {f : Nat} {r : Bool} {vs : List V} {H : Hp} {Q : VK} {E : XK} {O : Addr → Prop} {ds : List D} {d : D} (t : Trk O H) (q : Reps G O H vs ds) (e : F f ds = .ok d) (k : ∀ v H', Same H H' → RetO r G O H H' v d → Q v H') : Spv G F f r vs H Q E := ⟨O, ds, _, t, q, e, k⟩
open Classical in
/-- what stands, but for F -/
noncomputable def hide (H : Hp) (F : Addr → Prop) : Hp := fun a => if F a then none else H a
theorem hide_in {H : Hp} {F : Addr → Prop} {a : Addr} (h : F a) : hide H F a = none := if_pos h
theorem hide_out {H : Hp} {F : Addr → Prop} {a : Addr} (h : ¬ F a) : hide H F a = H a := if_neg h
theorem hide_some {H : Hp} {F : Addr → Prop} {a : Addr} {u : HO} (h : hide H F a = some u) : H a = some u ∧ ¬ F a := by
  by_cases q : F a
  · rw [hide_in q] at h; cases h
  · rw [hide_out q] at h; exact ⟨h, q⟩
theorem hide_none {H : Hp} {F : Addr → Prop} {a : Addr} (h : hide H F a = none) : H a = none ∨ F a := by
  by_cases q : F a
  · exact .inr q
  · rw [hide_out q] at h; exact .inl h
/-- the result of a def that changes its first argument, whose addresses are F' then -/
def RetM (G : Wd) (O F' : Addr → Prop) (B H' : Hp) (v : V) (d : D) : Prop :=
  (∃ q Fq, v = .ref q ∧ (∀ a, Fq a → B a = none ∧ ¬ F' a ∧ ¬ O a) ∧ Own G (fun a => (O a ∨ F' a) ∨ Fq a) Fq H' q d) ∨ (isMut d = false ∧ Rep G (fun a => O a ∨ F' a) H' v d)
def SpvM (G : Wd) (Fn : Nat → List D → Rs D) (f : Nat) (vs : List V) (H : Hp) (Q : VK) : Prop :=
  ∃ O F p d0 vs' ds d d1, vs = .ref p :: vs' ∧ Trk O H ∧ (∀ a, F a → ¬ O a) ∧ Own G (fun a => O a ∨ F a) F H p d0 ∧ Reps G (fun a => O a ∨ F a) H vs' ds ∧ Fn f (d0 :: ds) = .ok (.tup [d, d1]) ∧
    ∀ v F' H', Same (hide H F) H' → (∀ a, F' a → hide H F a = none ∧ ¬ O a) → Own G (fun a => O a ∨ F' a) F' H' p d1 → RetM G O F' (hide H F) H' v d → Q v H'
/-- a callee's exceptions are taken -/
def PassX (P : Program) (w : World) (CX : CXT) : Prop := ∀ (X : Cx) (W : WX) (σ : L2.St), X.prog = P → X.w = w → L2N.Takes X W → PassesAt CX X σ (WE W σ)
def CallC (P : Program) (w : World) (K : PySem.W.Frag) (mg : Str → Option Value) (base : Heap) (A : Around) (G : Wd) (M : Mn) (f : Nat) (x : Str) (r : Bool) : Prop :=
  ∃ (a : Addr) (fd : FuncData) (ps : List Str) (sp : Sp) (dvs : List V) (dsv : List Value) (k : Nat) (CX : CXT), mg x = some (.ref a) ∧ PySem.W.keepIn K (.ref a) = true ∧ FnOk P w K mg base CX k a fd ps sp ∧ Room k A ∧ Binds K fd ps dsv ∧ Vals dvs dsv ∧
    PassX P w CX ∧ (∀ X : Cx, X.prog = P → X.w = w → Passes CX X E0) ∧ ∀ vs H Q E, Spv G M.F f r vs H Q E → sp (vs ++ dvs) H Q E
/-- while the exception at hx is handled -/
def SpvT (G : Wd) (F : Nat → List D → Rs D) (f : Nat) (r : Bool) (hx : Addr) (vs : List V) (H : Hp) (Q : VK) : Prop :=
  ∃ O ds d, Trk O H ∧ ¬ O hx ∧ Reps G O H vs ds ∧ F f ds = .ok d ∧ ∀ v H', Same H H' → RetO r G O H H' v d → Q v H'
def CallH (P : Program) (w : World) (K : PySem.W.Frag) (mg : Str → Option Value) (base : Heap) (A : Around) (G : Wd) (M : Mn) (f : Nat) (x : Str) (r : Bool) : Prop :=
  ∃ (a : Addr) (fd : FuncData) (ps : List Str) (sp : Addr → Sp) (k : Nat) (CX : CXT), mg x = some (.ref a) ∧ PySem.W.keepIn K (.ref a) = true ∧ FnT P w K mg base CX k a fd ps sp ∧ L2H.RoomH k A ∧ Binds K fd ps [] ∧
    (∀ X : Cx, X.prog = P → X.w = w → Passes CX X E0) ∧ ∀ hx vs H Q, SpvT G M.F f r hx vs H Q → sp hx vs H Q E0
/-- raise X(n) -/
def RaiseOk (P : Program) (w : World) (K : PySem.W.Frag) (mg : Str → Option Value) (base : Heap) (A : Around) (G : Wd) (i : Nat) (x : Str) : Prop :=
  ∃ (f : Str) (fI : Addr) (fd : FuncData) (ps : List Str) (sp : Sp) (k : Nat) (CX : CXT), G.xn i = some f ∧ mg x = some (.ref (G.cl i)) ∧ OexC K (G.cl i) ∧ PySem.W.findIn K (.ref (G.cl i)) "__init__" = some (some (.ref fI)) ∧ PySem.W.typeIn K (.ref fI) = some (.type "function") ∧
    FnOk P w K mg base CX k fI fd ps sp ∧ Room (k + 1) A ∧ Binds K fd ps [] ∧ (∀ X : Cx, X.prog = P → X.w = w → Passes CX X (fun _ _ _ => False)) ∧
    ∀ a (n : Int) H Q E, n.natAbs.log2 < 1920 → H a = some (exo a (G.cl i) none) → (∀ H1 dx, Same H H1 → H1 dx = none → dx ≠ a → Q .non (upd (upd H1 dx (exd dx [(f, .int n)])) a (exo a (G.cl i) (some dx)))) → sp [.ref a, .int n] H Q E
/-- an exception's class: its fields are read, isinstance answers -/
structure XcF (K : PySem.W.Frag) (C : Addr) : Prop where
  x : XfC K C
  cl : (PySem.W.clsIn K C).isSome = true
  ca : PySem.W.findIn K (.ref C) "__class__" = some (some (.builtin "object.__class__"))
  cn : PySem.W.specialIn K (.builtin "object.__class__") "__get__" = some (some (.builtin "getset_descriptor.__get__"))
  ct : PySem.W.takesIn K (.builtin "object.__class__") = some true
  cm : PySem.W.mroIn K C (.type "object") = some true
/-- a target's value -/
def tgV (cl : Nat → Addr) : Option Nat → Value
  | some j => .ref (cl j)
  | none => .type "ValueError"
def CallM (P : Program) (w : World) (K : PySem.W.Frag) (mg : Str → Option Value) (base : Heap) (A : Around) (G : Wd) (M : Mn) (f : Nat) (x : Str) : Prop :=
  ∃ (a : Addr) (fd : FuncData) (ps : List Str) (sp : Sp) (dvs : List V) (dsv : List Value) (k : Nat) (CX : CXT), mg x = some (.ref a) ∧ PySem.W.keepIn K (.ref a) = true ∧ FnOk P w K mg base CX k a fd ps sp ∧ Room k A ∧ Binds K fd ps dsv ∧ Vals dvs dsv ∧
    (∀ X : Cx, X.prog = P → X.w = w → Passes CX X E0) ∧ ∀ vs H Q, SpvM G M.F f vs H Q → sp (vs ++ dvs) H Q E0
def MethOk (P : Program) (w : World) (K : PySem.W.Frag) (mg : Str → Option Value) (base : Heap) (A : Around) (G : Wd) (M : Mn) (k : Nat) (m : Str) (f : Nat) (r : Bool) : Prop :=
  ∃ (a : Addr) (fd : FuncData) (ps : List Str) (sp : Sp) (dvs : List V) (dsv : List Value) (kk : Nat) (CX : CXT), Cls K (G.cl k) ∧ Meth K (G.cl k) m a ∧ FnOk P w K mg base CX kk a fd ps sp ∧ Room kk A ∧ Binds K fd ps dsv ∧ Vals dvs dsv ∧
    (∀ X : Cx, X.prog = P → X.w = w → Passes CX X E0) ∧ ∀ vs H Q E, Spv G M.F f r vs H Q E → sp (vs ++ dvs) H Q E
structure Ok (X : Cx) (G : Wh) (M : Mn) (c : Cn) : Prop where
  K : G.K = X.K
  w : G.w = X.w
  N : X.N = c.N
  nd : c.N.Nodup
  nn : c.N.all plainN = true
  cm : c.hot = false → X.calm = true
  wm : (G.hd = none ∧ X.calm = true ∧ c.hot = false) ∨ ∃ a, G.hd = some a ∧ X.A.handled = some (.ref a) ∧ c.hot = true
  hu : X.A.units + 65 < cLine
  fn : ∀ f x r, c.fn[f]? = some (x, r) → isG x = true → c.hot = false → CallC X.prog X.w X.K X.mg X.base X.A G M f x r
  fh : ∀ f x r, c.fn[f]? = some (x, r) → isG x = true → f ∈ c.hfn → CallH X.prog X.w X.K X.mg X.base X.A G M f x r
  ms : ∀ k m f, (k, m, f) ∈ c.ms → c.hot = false → ∃ r, MethOk X.prog X.w X.K X.mg X.base X.A G M k m f r
  cs : ∀ i x, c.cs[i]? = some x → X.mg x = some (.ref (G.cl i)) ∧ MkO X.K (G.cl i)
  ia : ∀ i k b, (i, k, b) ∈ c.ia → MkO X.K (G.cl i) ∧ PySem.W.kitOne X.K (.ref (G.cl i)) (.ref (G.cl k)) = some b
  gl : ∀ g x, c.gl[g]? = some x → ∃ v u, X.mg x = some u ∧ RelV v u ∧ ∀ O H, Rep G O H v (M.gl g)
  bl : ∀ x, x ∈ c.bl → X.mg x = none
  fm : ∀ f x, (f, x) ∈ c.fm → c.hot = false → CallM X.prog X.w X.K X.mg X.base X.A G M f x
  xt : ∀ x j, (x, some j) ∈ c.xt → X.mg x = some (.ref (G.cl j))
  xq : ∀ i j b, (i, j, b) ∈ c.xq → XcF X.K (G.cl i) ∧ PySem.W.kitOne X.K (.ref (G.cl i)) (tgV G.cl j) = some b ∧ PySem.W.exmOne X.K (.ref (G.cl i)) (tgV G.cl j) = some b
  xr : ∀ i x, (i, x) ∈ c.xr → c.hot = false → RaiseOk X.prog X.w X.K X.mg X.base X.A G i x
  xf : ∀ i f, (i, f) ∈ c.xf → XcF X.K (G.cl i) ∧ PySem.W.findIn X.K (.ref (G.cl i)) f = some none ∧ G.xn i = some f
theorem Ok.warm {X : Cx} {G : Wh} {M : Mn} {c : Cn} (o : Ok X G M c) {S : List Nat} {E : Ev} {B : Hp} {σ : L2.St} {H : Hp} {δ : Env} (j : J G S E B σ H δ) : Warm X H := by
  rcases o.wm with ⟨_, h, _⟩ | ⟨a, h1, h2, _⟩
  · exact .inl h
  · obtain ⟨⟨C, dx, q⟩, _⟩ := j.ht a h1
    exact .inr ⟨a, C, dx, h2, q⟩

/-! ### readings -/
def rE (G : Wh) (S : List Nat) (m : Mo) (f : Env → Rs D) : TE := fun σ H Q => ∃ E B δ d, J G S E B σ H δ ∧ f δ = .ok d ∧ ∀ v H', Same H H' → Out G m (OS S E σ) H H' v d → Q v H'
def rT (G : Wh) (S : List Nat) (f : Env → Rs D) : TT := fun σ H Q => ∃ E B δ b, J G S E B σ H δ ∧ f δ = .ok (.bl b) ∧ ∀ H', Same H H' → Q b H'
def rA (G : Wh) (S : List Nat) (fz : Bool) (f : Env → Rs (List D)) : TA := fun σ H Q => ∃ E B δ ds, J G S E B σ H δ ∧ f δ = .ok ds ∧
  ∀ vs H', Same H H' → RepBs G (OS S E σ) H' vs ds → (fz = true → Reps G (OS S E σ) H' vs ds) → Q vs H'
theorem _root_.L2.PE.imp {X : Cx} {e : Expr} {t t' : TE} (h : PE X e t) (w : ∀ σ H Q, t' σ H Q → t σ H Q) : PE X e t' := ⟨fun pins s σ H Q I hw => h.run pins s σ H Q I (w σ H Q hw)⟩
theorem _root_.L2.PT.imp {X : Cx} {e : Expr} {t t' : TT} (h : PT X e t) (w : ∀ σ H Q, t' σ H Q → t σ H Q) : PT X e t' := ⟨fun pins s σ H Q I hw => h.run pins s σ H Q I (w σ H Q hw)⟩
theorem _root_.L2.PA.imp {X : Cx} {e : List Expr} {t t' : TA} (h : PA X e t) (w : ∀ σ H Q, t' σ H Q → t σ H Q) : PA X e t' := ⟨fun pos pins s σ H Q I hw => h.run pos pins s σ H Q I (w σ H Q hw)⟩
theorem _root_.L2.PO.imp {X : Cx} {e : Option Expr} {t t' : TO} (h : PO X e t) (w : ∀ σ H Q, t' σ H Q → t σ H Q) : PO X e t' := ⟨fun pins s σ H Q I hw => h.run pins s σ H Q I (w σ H Q hw)⟩

/-! ### the forms of expressions -/
def noStar : Expr → Bool
  | .Starred .. => false
  | _ => true
def noSet : Expr → Bool
  | .Set .. => false
  | _ => true
def noIf : Expr → Bool
  | .IfExp .. => false
  | _ => true
def noSlice : Expr → Bool
  | .Slice .. => false
  | _ => true
theorem starEach_cons {e : Expr} {es : List Expr} {env : PySem.Env} (h : noStar e = true) : starEach (e :: es) env = (false, eval e env) :: starEach es env := by
  cases e <;> first | rfl | cases h
theorem starEach_none {env : PySem.Env} {pos : Pos} : ∀ {es : List Expr}, es.all noStar = true → (backTo pos (starEach es env)).any (·.1) = false
  | [], _ => rfl
  | e :: es, h => by
    rw [List.all_cons, Bool.and_eq_true] at h
    rw [starEach_cons h.1]
    have := starEach_none (env := env) (pos := pos) h.2
    unfold backTo at this ⊢
    rw [List.map_cons, List.any_cons, this]; rfl
theorem plainIx {e : Expr} (h : noSlice e = true) : PlainIx e := fun o i => by
  cases e <;> first | rfl | cases h
theorem noMark {op : CmpOp} {e : Expr} (h : noSet e = true) : behindInMarks op e = false := by
  cases e <;> first | rfl | cases h
theorem noFold {e : Expr} {env : PySem.Env} (h : noSet e = true) : ∀ x, foldedSetIterable e env x = pure x := fun x => by
  cases e <;> first | rfl | cases h
def vis (sc : Scope) (x : Str) : Bool := match sc.names.lookup x with
  | some .local => true
  | some .cell => true
  | some .free => true
  | _ => false
def glb (sc : Scope) (x : Str) : Bool := match sc.names.lookup x with
  | some .globalImplicit => true
  | _ => false
theorem vis_of {sc : Scope} {x : Str} (h : vis sc x = true) : Vis sc x := by
  unfold vis at h
  split at h
  · rename_i q; exact .inl q
  · rename_i q; exact .inr (.inl q)
  · rename_i q; exact .inr (.inr q)
  · cases h
theorem glb_of {X : Cx} {x : Str} (h : glb X.env.scope x = true) : Gl X x := by
  unfold glb at h
  split at h
  · rename_i q; exact q
  · cases h
theorem plainN_of {x : Str} (h : plainN x = true) : (x == ("__debug__" : Str)) = false ∧ (x == ("__classdict__" : Str)) = false ∧ x ≠ ("__name__" : Str) := by
  unfold plainN at h
  rw [Bool.and_eq_true, Bool.and_eq_true] at h
  obtain ⟨⟨a, b⟩, c⟩ := h
  refine ⟨by simpa using a, by simpa using b, ?_⟩
  intro e
  subst e
  simp at c

def Bi.name : Bi → Str
  | .len => "len" | .abs => "abs" | .max2 => "max" | .min2 => "min" | .int1 => "int" | .str1 => "str" | .list1 => "list" | .tuple1 => "tuple"
  | .divmod => "divmod" | .sum => "sum" | .all => "all" | .any => "any" | .max1 => "max" | .min1 => "min" | .sorted1 => "sorted"
def Ty.name : Ty → Str
  | .int => "int" | .bool => "bool" | .str => "str" | .tuple => "tuple" | .list => "list"

def md (c : Cn) (S : List Nat) : Ex → Mo
  | .var i => if i ∈ S then .bor else .frz
  | .bin .. => .new
  | .lst _ => .new
  | .sl .. => .new
  | .bi .. => .new
  | .lc .. => .new
  | .vlc .. => .new
  | .rgA .. => .new
  | .rgB .. => .new
  | .dsp .. => .new
  | .dnw .. => .new
  | .dvl .. => .new
  | .spt .. => .new
  | .dspT .. => .new
  | .srtD .. => .new
  | .nix .. => .bor
  | .nls .. => .new
  | .dnl => .new
  | .sst .. => .new
  | .nln => .new
  | .rpl .. => .new
  | .stp .. => .new
  | .cal _ f _ => match c.fn[f]? with
    | some (_, true) => .new
    | _ => .frz
  | _ => .frz
def nb (c : Cn) (S : List Nat) (e : Ex) : Bool := decide (md c S e ≠ .bor)
def nbs (c : Cn) (S : List Nat) : Exs → Bool
  | .nil => true
  | .cons e es => nb c S e && nbs c S es
def own (c : Cn) (is : List Nat) : List (Str × Nat) := is.map fun i => (c.N.getD i "", i)
def locB (sc : Scope) (x : Str) : Bool := match sc.names.lookup x with
  | some .local => true
  | _ => false
/-- targets of a comprehension: locals of its block -/
def chkT (c : Cn) (sc : Scope) : Tg → Expr → Bool
  | .one i, .Name x _ => decide (c.N[i]? = some x) && locB sc x
  | .many is, .Tuple es _ _ => decide (is.length = es.length) && (is.zip es).all fun p => match p.2 with
    | .Name x _ => decide (c.N[p.1]? = some x) && locB sc x
    | _ => false
  | _, _ => false
def chkK : List Cst → List (Option Expr) → Bool
  | [], [] => true
  | .int i :: ks, some (.Constant (.int j) _ _) :: xs => decide (i = j) && chkK ks xs
  | .str i :: ks, some (.Constant (.str j) _ _) :: xs => decide (i = j) && chkK ks xs
  | _, _ => false
def noC : Expr → Bool
  | .Call .. => false
  | _ => true
def rgN (t : Bool) : Str := if t then "tuple" else "list"
def tgtB (c : Cn) (z : Str) : Option Nat → Bool
  | some _ => plainN z
  | none => decide (z = "ValueError") && decide (z ∈ c.bl)
mutual
def chkE (c : Cn) (sc : Scope) (S : List Nat) : Ex → Expr → Bool
  | .var i, .Name x _ => decide (c.N[i]? = some x) && vis sc x
  | .cst (.int i), .Constant (.int j) _ _ => decide (i = j)
  | .cst (.str i), .Constant (.str j) _ _ => decide (i = j)
  | .cst (.bl i), .Constant (.bool j) _ _ => decide (i = j)
  | .cst .non, .Constant .none _ _ => true
  | .glob g, .Name x _ => decide (c.gl[g]? = some x) && glb sc x && plainN x
  | .bin o a b, .BinOp x op y _ => decide (o.py = op) && chkE c sc S a x && chkE c sc S b y
  | .neg a, .UnaryOp .USub x _ => chkE c sc S a x
  | .not a, .UnaryOp .Not x _ => chkE c sc S a x && noIf x
  | .and a b, .BoolOp .And [x, y] _ => chkE c sc S a x && noIf x && chkE c sc S b y && noIf y && nb c S b
  | .and a b, .BoolOp .And (x :: y :: z :: r) p => chkE c sc S a x && noIf x && chkE c sc S b (.BoolOp .And (y :: z :: r) p) && nb c S b
  | .or a b, .BoolOp .Or [x, y] _ => chkE c sc S a x && noIf x && chkE c sc S b y && noIf y && nb c S b
  | .or a b, .BoolOp .Or (x :: y :: z :: r) p => chkE c sc S a x && noIf x && chkE c sc S b (.BoolOp .Or (y :: z :: r) p) && nb c S b
  | .cmp o a b, .Compare x [op] [y] _ => decide (o.py = op) && chkE c sc S a x && chkE c sc S b y && noSet y
  | .chain o o' a b d, .Compare x [op, op'] [y, z] _ => decide (o.py = op) && decide (o'.py = op') && chkE c sc S a x && chkE c sc S b y && chkE c sc S d z && noSet z
  | .ite k a b, .IfExp x y z _ => chkE c sc S k x && noIf x && chkE c sc S a y && chkE c sc S b z && nb c S a && nb c S b
  | .tup es, .Tuple xs _ _ => chkEs c sc S es xs && nbs c S es
  | .lst es, .List xs _ => chkEs c sc S es xs && nbs c S es
  | .ix a b, .Subscript x y _ => chkE c sc S a x && chkE c sc S b y && noSlice y
  | .sl a lo hi, .Subscript x (.Slice l h none _) _ => chkE c sc S a x && chkO c sc S lo l && chkO c sc S hi h
  | .cal fl f es, .Call (.Name x _) xs [] _ => (match c.fn[f]? with
      | some (y, r) => decide (y = x) && isG x && (match fl with | .any => nbs c S es | .flat => true | .flat1 => r) && (!c.hot || (decide (f ∈ c.hfn) && !xs.isEmpty))
      | none => false) && glb sc x && plainN x && chkEs c sc S es xs
  | .bi b es, .Call (.Name x _) (x0 :: xs) [] _ => decide (x = b.name) && decide (x ∈ c.bl) && glb sc x && chkEs c sc S es (x0 :: xs) && (!c.hot || b.cool)
  | .isi a t, .Call (.Name x _) [y, .Name z _] [] _ => decide (x = "isinstance") && decide (x ∈ c.bl) && glb sc x && decide (z = t.name) && decide (z ∈ c.bl) && glb sc z && chkE c sc S a y && noStar y
  | .inr n e a, .Compare x [op] [.Call (.Name g _) [y] [] _] _ => decide (op = if n then .NotIn else .In) && chkE c sc S e x && decide (g = "range") && decide (g ∈ c.bl) && glb sc g && chkE c sc S a y && noStar y
  | .rgA t a, .Call (.Name f _) [.Call (.Name g _) [x] [] _] [] _ => decide (f = rgN t) && decide (f ∈ c.bl) && glb sc f && decide (g = "range") && decide (g ∈ c.bl) && glb sc g && chkE c sc S a x && noStar x && !c.hot
  | .rgB t a b, .Call (.Name f _) [.Call (.Name g _) [x, y] [] _] [] _ => decide (f = rgN t) && decide (f ∈ c.bl) && glb sc f && decide (g = "range") && decide (g ∈ c.bl) && glb sc g && chkE c sc S a x && noStar x && chkE c sc S b y && noStar y && !c.hot
  | .dsp ks es, .Dict keys vals _ => chkK ks keys && chkEs c sc S es vals && nbs c S es && decide (ks.length ≤ 15) && decide (ks.length = vals.length) && !ks.isEmpty
  | .rpl es k, .BinOp (.List xs _) op y _ => decide (op = .Mult) && chkEs c sc S es xs && nbs c S es && chkE c sc S k y
  | .dnw _, .Dict [] [] _ => true
  | .dnl, .Dict [] [] _ => true
  | .sst a, .Call (.Name f _) [.Call (.Name g _) [x] [] _] [] _ => decide (f = "sorted") && decide (f ∈ c.bl) && glb sc f && decide (g = "set") && decide (g ∈ c.bl) && glb sc g && chkE c sc S a x && noStar x && !c.hot
  | .nln, .List [] _ => true
  | .lix a e, .Call (.Attribute x m apos) [z] [] pos => decide (m = "index") && chkE c sc S a x && noC x && chkE c sc S e z && noStar z && (apos.endLine == pos.line)
  | .tix a e, .Call (.Attribute (.Name y yp) m apos) [z] [] pos => decide (m = "index") && chkE c sc S a (.Name y yp) && chkE c sc S e z && noStar z && (apos.endLine == pos.line)
  | .spt a e, .Call (.Attribute x m apos) [z] [] pos => decide (m = "split") && chkE c sc S a x && noC x && chkE c sc S e z && noStar z && (apos.endLine == pos.line)
  | .sw a e, .Call (.Attribute x m apos) [z] [] pos => decide (m = "startswith") && chkE c sc S a x && noC x && chkE c sc S e z && noStar z && (apos.endLine == pos.line)
  | .jn a e, .Call (.Attribute x m apos) [z] [] pos => decide (m = "join") && chkE c sc S a x && noC x && chkE c sc S e z && noStar z && (apos.endLine == pos.line)
  | .fmt a, .FormattedValue e cv none _ => decide (cv = -1) && chkE c sc S a e
  | .fs es, .JoinedStr xs _ => decide (2 ≤ xs.length) && chkEs c sc S es xs
  | .dspT a b, .Dict [some x] [y] _ => chkE c sc S a x && chkE c sc S b y && nb c S a && nb c S b
  | .srtD a, .Call (.Name f _) [x] [] _ => decide (f = "sorted") && decide (f ∈ c.bl) && glb sc f && chkE c sc S a x && noStar x && !c.hot
  | .nls tg s, .ListComp (.List [] _) [⟨t, it, [], 0⟩] scope _ => chkR c sc S s t it && noSet it && blkC c.N sc scope (own c tg.slots) && chkT c (relS scope sc) tg t && (tg.slots.all fun i => decide (i ∉ S))
  | .nix a k, .Subscript x y _ => chkE c sc S a x && chkE c sc S k y && noSlice y
  | .mk k, .Call (.Name x _) [] [] _ => decide (c.cs[k]? = some x) && glb sc x && plainN x
  | .mth a tb m es, .Call (.Attribute (.Name y yp) m' apos) xs [] pos => decide (m = m') && decide (xs.length < 30) && (apos.endLine == pos.line) && chkE c sc S a (.Name y yp) && chkEs c sc S es xs && nbs c S es && !c.hot && tb.all fun p => decide ((p.1, m, p.2) ∈ c.ms)
  | .isc a k tb, .Call (.Name f _) [y, .Name z _] [] _ => decide (f = "isinstance") && decide (f ∈ c.bl) && glb sc f && decide (c.cs[k]? = some z) && glb sc z && plainN z && chkE c sc S a y && noStar y && tb.all fun p => decide ((p.1, k, p.2) ∈ c.ia)
  | .gt1 a k, .Call (.Attribute x m apos) [y] [] pos => decide (m = "get") && chkE c sc S a x && noC x && chkE c sc S k y && noStar y && (apos.endLine == pos.line)
  | .dvl a, .Call (.Name f _) [.Call (.Attribute x m apos) [] [] p2] [] _ => decide (f = "list") && decide (f ∈ c.bl) && glb sc f && decide (m = "values") && chkE c sc S a x && noC x && (apos.endLine == p2.line) && !c.hot
  | .gtd a k d, .Call (.Attribute x m apos) [y, z] [] pos => decide (m = "get") && chkE c sc S a x && noC x && chkE c sc S k y && chkE c sc S d z && nb c S d && noStar y && noStar z && (apos.endLine == pos.line)
  | .xf a f cs, .Attribute (.Name y p) f' pos => decide (f = f') && plainN y && chkE c sc S a (.Name y p) && cs.all fun i => decide ((i, f) ∈ c.xf)
  | .isx a k tb, .Call (.Name f _) [y, .Name z _] [] _ => decide (f = "isinstance") && decide (f ∈ c.bl) && glb sc f && (match c.xt[k]? with
      | some (z', j) => decide (z' = z) && tgtB c z j && tb.all fun p => decide ((p.1, j, p.2) ∈ c.xq)
      | none => false) && glb sc z && chkE c sc S a y && noStar y
  | .stp a k, .Subscript x (.Slice none none (some y) _) _ => chkE c sc S a x && chkE c sc S k y
  | .lc tg s k e, .ListComp elt [⟨t, it, ifs, 0⟩] scope _ => chkR c sc S s t it && noSet it && blkC c.N sc scope (own c tg.slots) && chkT c (relS scope sc) tg t && (tg.slots.all fun i => decide (i ∉ S)) &&
      chkIf c (relS scope sc) S k ifs && chkE c (relS scope sc) S e elt && nb c S e
  | .vlc i tg e, .ListComp elt [⟨t, .Call (.Attribute (.Name x px) m apos) [] [] p2, [], 0⟩] scope _ => decide (m = "values") && decide (i ∈ S) && decide (c.N[i]? = some x) && vis sc x && (apos.endLine == p2.line) && !c.hot && blkC c.N sc scope (own c tg.slots) && nb c [] e && chkT c (relS scope sc) tg t && chkE c (relS scope sc) [] e elt
  | _, _ => false
def chkEs (c : Cn) (sc : Scope) (S : List Nat) : Exs → List Expr → Bool
  | .nil, [] => true
  | .cons e es, x :: xs => chkE c sc S e x && noStar x && chkEs c sc S es xs
  | _, _ => false
def chkO (c : Cn) (sc : Scope) (S : List Nat) : Ox → Option Expr → Bool
  | .no, none => true
  | .yes e, some x => chkE c sc S e x
  | _, _ => false
def chkIf (c : Cn) (sc : Scope) (S : List Nat) : Ox → List Expr → Bool
  | .no, [] => true
  | .yes e, [x] => chkE c sc S e x && noIf x
  | _, _ => false
def chkR (c : Cn) (sc : Scope) (S : List Nat) : Sr → Expr → Expr → Bool
  | .val e, _, x => chkE c sc S e x && nb c S e
  | .rng1 a, _, .Call (.Name f _) [x] [] _ => decide (f = "range") && decide (f ∈ c.bl) && glb sc f && chkE c sc S a x && noStar x && !c.hot
  | .rng2 a b, _, .Call (.Name f _) [x, y] [] _ => decide (f = "range") && decide (f ∈ c.bl) && glb sc f && chkE c sc S a x && noStar x && chkE c sc S b y && noStar y && !c.hot
  | .rng3 a b k, _, .Call (.Name f _) [x, y, .Constant (.int j) _ _] [] _ => decide (f = "range") && decide (f ∈ c.bl) && glb sc f && chkE c sc S a x && noStar x && chkE c sc S b y && noStar y && decide (j = k) && !c.hot
  | .enum a, .Tuple _ _ _, .Call (.Name f _) [x] [] _ => decide (f = "enumerate") && decide (f ∈ c.bl) && glb sc f && chkE c sc S a x && noStar x && nb c S a && !c.hot
  | .zip a b, .Tuple _ _ _, .Call (.Name f _) [x, y] [] _ => decide (f = "zip") && decide (f ∈ c.bl) && glb sc f && chkE c sc S a x && noStar x && chkE c sc S b y && noStar y && nb c S a && nb c S b && !c.hot
  | _, _, _ => false
end
end PV
namespace PV
open PySem PySem.Spec PyProof.Rows L2
theorem chkE_var {c : _} {sc : _} {S : _} {i : _} {x : _} {u1 : _} : chkE c sc S (.var i) (.Name x u1) = (decide (c.N[i]? = some x) && vis sc x) := rfl
theorem chkE_cst {c : _} {sc : _} {S : _} {i : _} {j : _} {u1 : _} {u2 : _} : chkE c sc S (.cst (.int i)) (.Constant (.int j) u1 u2) = (decide (i = j)) := rfl
theorem chkE_cst2 {c : _} {sc : _} {S : _} {i : _} {j : _} {u1 : _} {u2 : _} : chkE c sc S (.cst (.str i)) (.Constant (.str j) u1 u2) = (decide (i = j)) := rfl
theorem chkE_cst3 {c : _} {sc : _} {S : _} {i : _} {j : _} {u1 : _} {u2 : _} : chkE c sc S (.cst (.bl i)) (.Constant (.bool j) u1 u2) = (decide (i = j)) := rfl
theorem chkE_cst4 {c : _} {sc : _} {S : _} {u1 : _} {u2 : _} : chkE c sc S (.cst .non) (.Constant .none u1 u2) = (true) := rfl
theorem chkE_glob {c : _} {sc : _} {S : _} {g : _} {x : _} {u1 : _} : chkE c sc S (.glob g) (.Name x u1) = (decide (c.gl[g]? = some x) && glb sc x && plainN x) := rfl
theorem chkE_bin {c : _} {sc : _} {S : _} {o : _} {a : _} {b : _} {x : _} {op : _} {y : _} {u1 : _} : chkE c sc S (.bin o a b) (.BinOp x op y u1) = (decide (o.py = op) && chkE c sc S a x && chkE c sc S b y) := rfl
theorem chkE_neg {c : _} {sc : _} {S : _} {a : _} {x : _} {u1 : _} : chkE c sc S (.neg a) (.UnaryOp .USub x u1) = (chkE c sc S a x) := rfl
theorem chkE_not {c : _} {sc : _} {S : _} {a : _} {x : _} {u1 : _} : chkE c sc S (.not a) (.UnaryOp .Not x u1) = (chkE c sc S a x && noIf x) := rfl
theorem chkE_and {c : _} {sc : _} {S : _} {a : _} {b : _} {x : _} {y : _} {u1 : _} : chkE c sc S (.and a b) (.BoolOp .And [x, y] u1) = (chkE c sc S a x && noIf x && chkE c sc S b y && noIf y && nb c S b) := rfl
theorem chkE_and2 {c : _} {sc : _} {S : _} {a : _} {b : _} {x : _} {y : _} {z : _} {r : _} {p : _} : chkE c sc S (.and a b) (.BoolOp .And (x :: y :: z :: r) p) = (chkE c sc S a x && noIf x && chkE c sc S b (.BoolOp .And (y :: z :: r) p) && nb c S b) := rfl
theorem chkE_or {c : _} {sc : _} {S : _} {a : _} {b : _} {x : _} {y : _} {u1 : _} : chkE c sc S (.or a b) (.BoolOp .Or [x, y] u1) = (chkE c sc S a x && noIf x && chkE c sc S b y && noIf y && nb c S b) := rfl
theorem chkE_or2 {c : _} {sc : _} {S : _} {a : _} {b : _} {x : _} {y : _} {z : _} {r : _} {p : _} : chkE c sc S (.or a b) (.BoolOp .Or (x :: y :: z :: r) p) = (chkE c sc S a x && noIf x && chkE c sc S b (.BoolOp .Or (y :: z :: r) p) && nb c S b) := rfl
theorem chkE_cmp {c : _} {sc : _} {S : _} {o : _} {a : _} {b : _} {x : _} {op : _} {y : _} {u1 : _} : chkE c sc S (.cmp o a b) (.Compare x [op] [y] u1) = (decide (o.py = op) && chkE c sc S a x && chkE c sc S b y && noSet y) := rfl
theorem chkE_chain {c : _} {sc : _} {S : _} {o : _} {o' : _} {a : _} {b : _} {d : _} {x : _} {op : _} {op' : _} {y : _} {z : _} {u1 : _} : chkE c sc S (.chain o o' a b d) (.Compare x [op, op'] [y, z] u1) = (decide (o.py = op) && decide (o'.py = op') && chkE c sc S a x && chkE c sc S b y && chkE c sc S d z && noSet z) := rfl
theorem chkE_ite {c : _} {sc : _} {S : _} {k : _} {a : _} {b : _} {x : _} {y : _} {z : _} {u1 : _} : chkE c sc S (.ite k a b) (.IfExp x y z u1) = (chkE c sc S k x && noIf x && chkE c sc S a y && chkE c sc S b z && nb c S a && nb c S b) := rfl
theorem chkE_tup {c : _} {sc : _} {S : _} {es : _} {xs : _} {u1 : _} {u2 : _} : chkE c sc S (.tup es) (.Tuple xs u1 u2) = (chkEs c sc S es xs && nbs c S es) := rfl
theorem chkE_lst {c : _} {sc : _} {S : _} {es : _} {xs : _} {u1 : _} : chkE c sc S (.lst es) (.List xs u1) = (chkEs c sc S es xs && nbs c S es) := rfl
theorem chkE_ix {c : _} {sc : _} {S : _} {a : _} {b : _} {x : _} {y : _} {u1 : _} : chkE c sc S (.ix a b) (.Subscript x y u1) = (chkE c sc S a x && chkE c sc S b y && noSlice y) := rfl
theorem chkE_sl {c : _} {sc : _} {S : _} {a : _} {lo : _} {hi : _} {x : _} {l : _} {h : _} {u1 : _} {u2 : _} : chkE c sc S (.sl a lo hi) (.Subscript x (.Slice l h none u1) u2) = (chkE c sc S a x && chkO c sc S lo l && chkO c sc S hi h) := rfl
theorem chkE_cal {c : _} {sc : _} {S : _} {fl : _} {f : _} {es : _} {x : _} {u1 : _} {xs : _} {u2 : _} : chkE c sc S (.cal fl f es) (.Call (.Name x u1) xs [] u2) = ((match c.fn[f]? with
      | some (y, r) => decide (y = x) && isG x && (match fl with | .any => nbs c S es | .flat => true | .flat1 => r) && (!c.hot || (decide (f ∈ c.hfn) && !xs.isEmpty))
      | none => false) && glb sc x && plainN x && chkEs c sc S es xs) := rfl
theorem chkE_bi {c : _} {sc : _} {S : _} {b : _} {es : _} {x : _} {u1 : _} {x0 : _} {xs : _} {u2 : _} : chkE c sc S (.bi b es) (.Call (.Name x u1) (x0 :: xs) [] u2) = (decide (x = b.name) && decide (x ∈ c.bl) && glb sc x && chkEs c sc S es (x0 :: xs) && (!c.hot || b.cool)) := rfl
theorem chkE_isi {c : _} {sc : _} {S : _} {a : _} {t : _} {x : _} {u1 : _} {y : _} {z : _} {u2 : _} {u3 : _} : chkE c sc S (.isi a t) (.Call (.Name x u1) [y, .Name z u2] [] u3) = (decide (x = "isinstance") && decide (x ∈ c.bl) && glb sc x && decide (z = t.name) && decide (z ∈ c.bl) && glb sc z && chkE c sc S a y && noStar y) := rfl
theorem chkE_inr {c : _} {sc : _} {S : _} {n : _} {e : _} {a : _} {x : _} {op : _} {g : _} {u1 : _} {y : _} {u2 : _} {u3 : _} : chkE c sc S (.inr n e a) (.Compare x [op] [.Call (.Name g u1) [y] [] u2] u3) = (decide (op = if n then .NotIn else .In) && chkE c sc S e x && decide (g = "range") && decide (g ∈ c.bl) && glb sc g && chkE c sc S a y && noStar y) := rfl
theorem chkE_rgA {c : _} {sc : _} {S : _} {t : _} {a : _} {f : _} {u1 : _} {g : _} {u2 : _} {x : _} {u3 : _} {u4 : _} : chkE c sc S (.rgA t a) (.Call (.Name f u1) [.Call (.Name g u2) [x] [] u3] [] u4) = (decide (f = rgN t) && decide (f ∈ c.bl) && glb sc f && decide (g = "range") && decide (g ∈ c.bl) && glb sc g && chkE c sc S a x && noStar x && !c.hot) := rfl
theorem chkE_rgB {c : _} {sc : _} {S : _} {t : _} {a : _} {b : _} {f : _} {u1 : _} {g : _} {u2 : _} {x : _} {y : _} {u3 : _} {u4 : _} : chkE c sc S (.rgB t a b) (.Call (.Name f u1) [.Call (.Name g u2) [x, y] [] u3] [] u4) = (decide (f = rgN t) && decide (f ∈ c.bl) && glb sc f && decide (g = "range") && decide (g ∈ c.bl) && glb sc g && chkE c sc S a x && noStar x && chkE c sc S b y && noStar y && !c.hot) := rfl
theorem chkE_dsp {c : _} {sc : _} {S : _} {ks : _} {es : _} {keys : _} {vals : _} {u1 : _} : chkE c sc S (.dsp ks es) (.Dict keys vals u1) = (chkK ks keys && chkEs c sc S es vals && nbs c S es && decide (ks.length ≤ 15) && decide (ks.length = vals.length) && !ks.isEmpty) := rfl
theorem chkE_rpl {c : _} {sc : _} {S : _} {es : _} {k : _} {xs : _} {u1 : _} {op : _} {y : _} {u2 : _} : chkE c sc S (.rpl es k) (.BinOp (.List xs u1) op y u2) = (decide (op = .Mult) && chkEs c sc S es xs && nbs c S es && chkE c sc S k y) := rfl
theorem chkE_dnw {c : _} {sc : _} {S : _} {u1 : _} {u2 : _} : chkE c sc S (.dnw u1) (.Dict [] [] u2) = (true) := rfl
theorem chkE_dnl {c : _} {sc : _} {S : _} {u1 : _} : chkE c sc S (.dnl) (.Dict [] [] u1) = (true) := rfl
theorem chkE_sst {c : _} {sc : _} {S : _} {a : _} {f : _} {u1 : _} {g : _} {u2 : _} {x : _} {u3 : _} {u4 : _} : chkE c sc S (.sst a) (.Call (.Name f u1) [.Call (.Name g u2) [x] [] u3] [] u4) = (decide (f = "sorted") && decide (f ∈ c.bl) && glb sc f && decide (g = "set") && decide (g ∈ c.bl) && glb sc g && chkE c sc S a x && noStar x && !c.hot) := rfl
theorem chkE_nln {c : _} {sc : _} {S : _} {u1 : _} : chkE c sc S (.nln) (.List [] u1) = (true) := rfl
theorem chkE_lix {c : _} {sc : _} {S : _} {a : _} {e : _} {x : _} {m : _} {apos : _} {z : _} {pos : _} : chkE c sc S (.lix a e) (.Call (.Attribute x m apos) [z] [] pos) = (decide (m = "index") && chkE c sc S a x && noC x && chkE c sc S e z && noStar z && (apos.endLine == pos.line)) := rfl
theorem chkE_tix {c : _} {sc : _} {S : _} {a : _} {e : _} {y : _} {yp : _} {m : _} {apos : _} {z : _} {pos : _} : chkE c sc S (.tix a e) (.Call (.Attribute (.Name y yp) m apos) [z] [] pos) = (decide (m = "index") && chkE c sc S a (.Name y yp) && chkE c sc S e z && noStar z && (apos.endLine == pos.line)) := rfl
theorem chkE_spt {c : _} {sc : _} {S : _} {a : _} {e : _} {x : _} {m : _} {apos : _} {z : _} {pos : _} : chkE c sc S (.spt a e) (.Call (.Attribute x m apos) [z] [] pos) = (decide (m = "split") && chkE c sc S a x && noC x && chkE c sc S e z && noStar z && (apos.endLine == pos.line)) := rfl
theorem chkE_sw {c : _} {sc : _} {S : _} {a : _} {e : _} {x : _} {m : _} {apos : _} {z : _} {pos : _} : chkE c sc S (.sw a e) (.Call (.Attribute x m apos) [z] [] pos) = (decide (m = "startswith") && chkE c sc S a x && noC x && chkE c sc S e z && noStar z && (apos.endLine == pos.line)) := rfl
theorem chkE_jn {c : _} {sc : _} {S : _} {a : _} {e : _} {x : _} {m : _} {apos : _} {z : _} {pos : _} : chkE c sc S (.jn a e) (.Call (.Attribute x m apos) [z] [] pos) = (decide (m = "join") && chkE c sc S a x && noC x && chkE c sc S e z && noStar z && (apos.endLine == pos.line)) := rfl
theorem chkE_fmt {c : _} {sc : _} {S : _} {a : _} {e : _} {cv : _} {u1 : _} : chkE c sc S (.fmt a) (.FormattedValue e cv none u1) = (decide (cv = -1) && chkE c sc S a e) := rfl
theorem chkE_fs {c : _} {sc : _} {S : _} {es : _} {xs : _} {u1 : _} : chkE c sc S (.fs es) (.JoinedStr xs u1) = (decide (2 ≤ xs.length) && chkEs c sc S es xs) := rfl
theorem chkE_dspT {c : _} {sc : _} {S : _} {a : _} {b : _} {x : _} {y : _} {u1 : _} : chkE c sc S (.dspT a b) (.Dict [some x] [y] u1) = (chkE c sc S a x && chkE c sc S b y && nb c S a && nb c S b) := rfl
theorem chkE_srtD {c : _} {sc : _} {S : _} {a : _} {f : _} {u1 : _} {x : _} {u2 : _} : chkE c sc S (.srtD a) (.Call (.Name f u1) [x] [] u2) = (decide (f = "sorted") && decide (f ∈ c.bl) && glb sc f && chkE c sc S a x && noStar x && !c.hot) := rfl
theorem chkE_nls {c : _} {sc : _} {S : _} {tg : _} {s : _} {u1 : _} {t : _} {it : _} {scope : _} {u2 : _} : chkE c sc S (.nls tg s) (.ListComp (.List [] u1) [⟨t, it, [], 0⟩] scope u2) = (chkR c sc S s t it && noSet it && blkC c.N sc scope (own c tg.slots) && chkT c (relS scope sc) tg t && (tg.slots.all fun i => decide (i ∉ S))) := rfl
theorem chkE_nix {c : _} {sc : _} {S : _} {a : _} {k : _} {x : _} {y : _} {u1 : _} : chkE c sc S (.nix a k) (.Subscript x y u1) = (chkE c sc S a x && chkE c sc S k y && noSlice y) := rfl
theorem chkE_mk {c : _} {sc : _} {S : _} {k : _} {x : _} {u1 : _} {u2 : _} : chkE c sc S (.mk k) (.Call (.Name x u1) [] [] u2) = (decide (c.cs[k]? = some x) && glb sc x && plainN x) := rfl
theorem chkE_mth {c : _} {sc : _} {S : _} {a : _} {tb : _} {m : _} {es : _} {y : _} {yp : _} {m' : _} {apos : _} {xs : _} {pos : _} : chkE c sc S (.mth a tb m es) (.Call (.Attribute (.Name y yp) m' apos) xs [] pos) = (decide (m = m') && decide (xs.length < 30) && (apos.endLine == pos.line) && chkE c sc S a (.Name y yp) && chkEs c sc S es xs && nbs c S es && !c.hot && tb.all fun p => decide ((p.1, m, p.2) ∈ c.ms)) := rfl
theorem chkE_isc {c : _} {sc : _} {S : _} {a : _} {k : _} {tb : _} {f : _} {u1 : _} {y : _} {z : _} {u2 : _} {u3 : _} : chkE c sc S (.isc a k tb) (.Call (.Name f u1) [y, .Name z u2] [] u3) = (decide (f = "isinstance") && decide (f ∈ c.bl) && glb sc f && decide (c.cs[k]? = some z) && glb sc z && plainN z && chkE c sc S a y && noStar y && tb.all fun p => decide ((p.1, k, p.2) ∈ c.ia)) := rfl
theorem chkE_gt1 {c : _} {sc : _} {S : _} {a : _} {k : _} {x : _} {m : _} {apos : _} {y : _} {pos : _} : chkE c sc S (.gt1 a k) (.Call (.Attribute x m apos) [y] [] pos) = (decide (m = "get") && chkE c sc S a x && noC x && chkE c sc S k y && noStar y && (apos.endLine == pos.line)) := rfl
theorem chkE_dvl {c : _} {sc : _} {S : _} {a : _} {f : _} {u1 : _} {x : _} {m : _} {apos : _} {p2 : _} {u2 : _} : chkE c sc S (.dvl a) (.Call (.Name f u1) [.Call (.Attribute x m apos) [] [] p2] [] u2) = (decide (f = "list") && decide (f ∈ c.bl) && glb sc f && decide (m = "values") && chkE c sc S a x && noC x && (apos.endLine == p2.line) && !c.hot) := rfl
theorem chkE_gtd {c : _} {sc : _} {S : _} {a : _} {k : _} {d : _} {x : _} {m : _} {apos : _} {y : _} {z : _} {pos : _} : chkE c sc S (.gtd a k d) (.Call (.Attribute x m apos) [y, z] [] pos) = (decide (m = "get") && chkE c sc S a x && noC x && chkE c sc S k y && chkE c sc S d z && nb c S d && noStar y && noStar z && (apos.endLine == pos.line)) := rfl
theorem chkE_xf {c : _} {sc : _} {S : _} {a : _} {f : _} {cs : _} {y : _} {p : _} {f' : _} {pos : _} : chkE c sc S (.xf a f cs) (.Attribute (.Name y p) f' pos) = (decide (f = f') && plainN y && chkE c sc S a (.Name y p) && cs.all fun i => decide ((i, f) ∈ c.xf)) := rfl
theorem chkE_isx {c : _} {sc : _} {S : _} {a : _} {k : _} {tb : _} {f : _} {u1 : _} {y : _} {z : _} {u2 : _} {u3 : _} : chkE c sc S (.isx a k tb) (.Call (.Name f u1) [y, .Name z u2] [] u3) = (decide (f = "isinstance") && decide (f ∈ c.bl) && glb sc f && (match c.xt[k]? with
      | some (z', j) => decide (z' = z) && tgtB c z j && tb.all fun p => decide ((p.1, j, p.2) ∈ c.xq)
      | none => false) && glb sc z && chkE c sc S a y && noStar y) := rfl
theorem chkE_stp {c : _} {sc : _} {S : _} {a : _} {k : _} {x : _} {y : _} {u1 : _} {u2 : _} : chkE c sc S (.stp a k) (.Subscript x (.Slice none none (some y) u1) u2) = (chkE c sc S a x && chkE c sc S k y) := rfl
theorem chkE_lc {c : _} {sc : _} {S : _} {tg : _} {s : _} {k : _} {e : _} {elt : _} {t : _} {it : _} {ifs : _} {scope : _} {u1 : _} : chkE c sc S (.lc tg s k e) (.ListComp elt [⟨t, it, ifs, 0⟩] scope u1) = (chkR c sc S s t it && noSet it && blkC c.N sc scope (own c tg.slots) && chkT c (relS scope sc) tg t && (tg.slots.all fun i => decide (i ∉ S)) &&
      chkIf c (relS scope sc) S k ifs && chkE c (relS scope sc) S e elt && nb c S e) := rfl
theorem chkE_vlc {c : _} {sc : _} {S : _} {i : _} {tg : _} {e : _} {elt : _} {t : _} {x : _} {px : _} {m : _} {apos : _} {p2 : _} {scope : _} {u1 : _} : chkE c sc S (.vlc i tg e) (.ListComp elt [⟨t, .Call (.Attribute (.Name x px) m apos) [] [] p2, [], 0⟩] scope u1) = (decide (m = "values") && decide (i ∈ S) && decide (c.N[i]? = some x) && vis sc x && (apos.endLine == p2.line) && !c.hot && blkC c.N sc scope (own c tg.slots) && nb c [] e && chkT c (relS scope sc) tg t && chkE c (relS scope sc) [] e elt) := rfl
theorem chkEs_nil {c : _} {sc : _} {S : _} : chkEs c sc S (.nil) ([]) = (true) := rfl
theorem chkEs_cons {c : _} {sc : _} {S : _} {e : _} {es : _} {x : _} {xs : _} : chkEs c sc S (.cons e es) (x :: xs) = (chkE c sc S e x && noStar x && chkEs c sc S es xs) := rfl
theorem chkO_no {c : _} {sc : _} {S : _} : chkO c sc S (.no) (none) = (true) := rfl
theorem chkO_yes {c : _} {sc : _} {S : _} {e : _} {x : _} : chkO c sc S (.yes e) (some x) = (chkE c sc S e x) := rfl
theorem chkIf_no {c : _} {sc : _} {S : _} : chkIf c sc S (.no) ([]) = (true) := rfl
theorem chkIf_yes {c : _} {sc : _} {S : _} {e : _} {x : _} : chkIf c sc S (.yes e) ([x]) = (chkE c sc S e x && noIf x) := rfl
theorem chkR_val {c : _} {sc : _} {S : _} {e : _} {u1 : _} {x : _} : chkR c sc S (.val e) (u1) (x) = (chkE c sc S e x && nb c S e) := rfl
theorem chkR_rng1 {c : _} {sc : _} {S : _} {a : _} {u1 : _} {f : _} {u2 : _} {x : _} {u3 : _} : chkR c sc S (.rng1 a) (u1) (.Call (.Name f u2) [x] [] u3) = (decide (f = "range") && decide (f ∈ c.bl) && glb sc f && chkE c sc S a x && noStar x && !c.hot) := rfl
theorem chkR_rng2 {c : _} {sc : _} {S : _} {a : _} {b : _} {u1 : _} {f : _} {u2 : _} {x : _} {y : _} {u3 : _} : chkR c sc S (.rng2 a b) (u1) (.Call (.Name f u2) [x, y] [] u3) = (decide (f = "range") && decide (f ∈ c.bl) && glb sc f && chkE c sc S a x && noStar x && chkE c sc S b y && noStar y && !c.hot) := rfl
theorem chkR_rng3 {c : _} {sc : _} {S : _} {a : _} {b : _} {k : _} {u1 : _} {f : _} {u2 : _} {x : _} {y : _} {j : _} {u3 : _} {u4 : _} {u5 : _} : chkR c sc S (.rng3 a b k) (u1) (.Call (.Name f u2) [x, y, .Constant (.int j) u3 u4] [] u5) = (decide (f = "range") && decide (f ∈ c.bl) && glb sc f && chkE c sc S a x && noStar x && chkE c sc S b y && noStar y && decide (j = k) && !c.hot) := rfl
theorem chkR_enum {c : _} {sc : _} {S : _} {a : _} {u1 : _} {u2 : _} {u3 : _} {f : _} {u4 : _} {x : _} {u5 : _} : chkR c sc S (.enum a) (.Tuple u1 u2 u3) (.Call (.Name f u4) [x] [] u5) = (decide (f = "enumerate") && decide (f ∈ c.bl) && glb sc f && chkE c sc S a x && noStar x && nb c S a && !c.hot) := rfl
theorem chkR_zip {c : _} {sc : _} {S : _} {a : _} {b : _} {u1 : _} {u2 : _} {u3 : _} {f : _} {u4 : _} {x : _} {y : _} {u5 : _} : chkR c sc S (.zip a b) (.Tuple u1 u2 u3) (.Call (.Name f u4) [x, y] [] u5) = (decide (f = "zip") && decide (f ∈ c.bl) && glb sc f && chkE c sc S a x && noStar x && chkE c sc S b y && noStar y && nb c S a && nb c S b && !c.hot) := rfl
end PV
namespace PV
open PySem PySem.Spec PyProof.Rows L2

section
variable {G : Wd} {O : Addr → Prop} {H H' : Hp} {v : V}
theorem Out.int {m : Mo} {i : Int} (h : Out G m O H H' v (.int i)) (t : Trk O H) : v = .int i := (h.b t).int
theorem Out.bl {m : Mo} {i : Bool} (h : Out G m O H H' v (.bl i)) (t : Trk O H) : v = .bl i := (h.b t).bl
theorem Out.of_rep {m : Mo} {d : D} (h : Rep G O H' v d) (n : isMut d = false) : Out G m O H H' v d := by
  cases m with
  | frz => exact h
  | new => exact RetO.of_rep h n
  | bor => exact .inl h
theorem Out.of_retO {d : D} (h : RetO true G O H H' v d) : Out G .new O H H' v d := h
end
theorem nb_of {c : Cn} {S : List Nat} {e : Ex} (h : nb c S e = true) : md c S e ≠ .bor := of_decide_eq_true h

/-- what is shown of an expression -/
structure Snd (X : Cx) (G : Wh) (M : Mn) (c : Cn) (S : List Nat) (e : Ex) (x : Expr) : Prop where
  pe : PE X x (rE G S (md c S e) (ev M e))
  pt : noIf x = true → PT X x (rT G S (ev M e))
  pw : ∀ op vs p, x = .BoolOp op vs p → PW X x (rT G S (ev M e))
section
variable {X : Cx} {G : Wh} {M : Mn} {c : Cn} {S : List Nat}
/-- a test by its value -/
theorem pt_of {e : Ex} {x : Expr} {m : Mo} {f : Env → Rs D} (h : PE X x (rE G S m f)) (he : ∀ whole, isTrue x X.env whole = (do let v ← whole; standAt x.pos; holding [v] (truthy v))) : PT X x (rT G S f) :=
  (pt_val h he).imp fun σ H Q ⟨E, B, δ, b, j, hf, k⟩ => ⟨E, B, δ, .bl b, j, hf, fun v H' s o => ⟨b, o.bl j.trk, k H' s⟩⟩
theorem Snd.of {e : Ex} {x : Expr} (h : PE X x (rE G S (md c S e) (ev M e))) (he : noIf x = true → ∀ whole, isTrue x X.env whole = (do let v ← whole; standAt x.pos; holding [v] (truthy v))) (n : ∀ op vs p, x ≠ .BoolOp op vs p) : Snd X G M c S e x :=
  ⟨h, fun z => pt_of (e := e) h (he z), fun op vs p z => absurd z (n op vs p)⟩

theorem snd_var {i : Nat} {x : Str} {pos : Pos} (o : Ok X G M c) (h : chkE c X.env.scope S (.var i) (.Name x pos) = true) : Snd X G M c S (.var i) (.Name x pos) := by
  simp only [chkE_var, Bool.and_eq_true, decide_eq_true_eq] at h
  have hp := plainN_of (List.all_eq_true.mp o.nn x (List.mem_of_getElem? h.1))
  refine Snd.of ((pe_var (i := i) (by rw [o.N]; exact h.1) (vis_of h.2) hp.1 hp.2.1).imp fun σ H Q ⟨E, B, δ, d, j, hf, k⟩ => ?_) (fun _ _ => rfl) (fun _ _ _ z => nomatch z)
  simp only [ev, vget] at hf
  split at hf
  · rename_i d' hd
    cases hf
    by_cases hi : i ∈ S
    · obtain ⟨p, d', e, e', n, r⟩ := j.ow i hi
      rw [hd] at e'
      cases e'
      refine ⟨_, e, k _ H (Same.refl H) ?_⟩
      rw [md, if_pos hi]
      exact .inr ⟨p, E.fp i, rfl, fun a f => .inr ⟨i, hi, f⟩, r⟩
    · obtain ⟨v, e, r⟩ := j.fz i d hi hd
      refine ⟨v, e, k _ H (Same.refl H) ?_⟩
      rw [md, if_neg hi]
      exact r
  · cases hf
theorem snd_cst {k : Cst} {x : Expr} (h : chkE c X.env.scope S (.cst k) x = true) : Snd X G M c S (.cst k) x := by
  cases x with
  | Constant q n p =>
    cases k <;> cases q <;> try (cases h; done)
    · simp only [chkE_cst, chkE_cst2, chkE_cst3, chkE_cst4, decide_eq_true_eq] at h
      subst h
      exact Snd.of (pe_int.imp fun σ H Q ⟨E, B, δ, d, j, hf, k⟩ => by cases hf; exact k _ H (Same.refl H) (.of_rep (.int _) rfl)) (fun _ _ => rfl) (fun _ _ _ z => nomatch z)
    · simp only [chkE_cst, chkE_cst2, chkE_cst3, chkE_cst4, decide_eq_true_eq] at h
      subst h
      exact Snd.of (pe_str.imp fun σ H Q ⟨E, B, δ, d, j, hf, k⟩ => by cases hf; exact k _ H (Same.refl H) (.of_rep (.str _) rfl)) (fun _ _ => rfl) (fun _ _ _ z => nomatch z)
    · simp only [chkE_cst, chkE_cst2, chkE_cst3, chkE_cst4, decide_eq_true_eq] at h
      subst h
      exact Snd.of (pe_bl.imp fun σ H Q ⟨E, B, δ, d, j, hf, k⟩ => by cases hf; exact k _ H (Same.refl H) (.of_rep (.bl _) rfl)) (fun _ _ => rfl) (fun _ _ _ z => nomatch z)
    · exact Snd.of (pe_non.imp fun σ H Q ⟨E, B, δ, d, j, hf, k⟩ => by cases hf; exact k _ H (Same.refl H) (.of_rep .non rfl)) (fun _ _ => rfl) (fun _ _ _ z => nomatch z)
  | _ => cases k <;> cases h
theorem snd_glob {g : Nat} {x : Str} {pos : Pos} (o : Ok X G M c) (h : chkE c X.env.scope S (.glob g) (.Name x pos) = true) : Snd X G M c S (.glob g) (.Name x pos) := by
  simp only [chkE_glob, Bool.and_eq_true, decide_eq_true_eq] at h
  obtain ⟨v, u, h1, h2, h3⟩ := o.gl g x h.1.1
  exact Snd.of ((pe_glob (glb_of h.1.2) h1 h2 (plainN_of h.2).1).imp fun σ H Q ⟨E, B, δ, d, j, hf, k⟩ => by cases hf; exact k _ H (Same.refl H) (h3 _ _)) (fun _ _ => rfl) (fun _ _ _ z => nomatch z)
theorem snd_bin {op : Bop} {a b : Ex} {x y : Expr} {pos : Pos} (o : Ok X G M c) (ha : Snd X G M c S a x) (hb : Snd X G M c S b y) : Snd X G M c S (.bin op a b) (.BinOp x op.py y pos) := by
  refine Snd.of ((pe_op (op_all op o.K) ha.pe hb.pe).imp fun σ H Q ⟨E, B, δ, d, j, hf, k⟩ => ?_) (fun _ _ => rfl) (fun _ _ _ z => nomatch z)
  simp only [ev] at hf
  obtain ⟨d1, f1, hf⟩ := Rs.bind_ok hf
  obtain ⟨d2, f2, hf⟩ := Rs.bind_ok hf
  refine ⟨E, B, δ, d1, j, f1, fun v1 H1 s1 o1 => ⟨E, B, δ, d2, j.same s1, f2, fun v2 H2 s2 o2 => ?_⟩⟩
  exact ⟨OS S E σ, d1, d2, d, j.trk.same (s1.trans s2), (o1.b j.trk).same s2, o2.b (j.same s1).trk, hf, fun v H' s r => k v H' ((s1.trans s2).trans s) (.mono (s1.trans s2) r)⟩
theorem snd_neg {a : Ex} {x : Expr} {pos : Pos} (ha : Snd X G M c S a x) : Snd X G M c S (.neg a) (.UnaryOp .USub x pos) := by
  refine Snd.of ((pe_un un_neg ha.pe).imp fun σ H Q ⟨E, B, δ, d, j, hf, k⟩ => ?_) (fun _ _ => rfl) (fun _ _ _ z => nomatch z)
  simp only [ev] at hf
  obtain ⟨d1, f1, hf⟩ := Rs.bind_ok hf
  refine ⟨E, B, δ, d1, j, f1, fun v1 H1 s1 o1 => ?_⟩
  cases d1 <;> try (cases hf; done)
  cases hf
  exact ⟨_, o1.int j.trk, k _ _ s1 (.of_rep (.int _) rfl)⟩
theorem snd_not {a : Ex} {x : Expr} {pos : Pos} (ha : Snd X G M c S a x) (nx : noIf x = true) : Snd X G M c S (.not a) (.UnaryOp .Not x pos) := by
  refine ⟨(pe_not ha.pe).imp fun σ H Q ⟨E, B, δ, d, j, hf, k⟩ => ?_, fun _ => (pt_not (ha.pt nx)).imp fun σ H Q ⟨E, B, δ, d, j, hf, k⟩ => ?_, fun _ _ _ z => nomatch z⟩
  · simp only [ev] at hf
    obtain ⟨d1, f1, hf⟩ := Rs.bind_ok hf
    refine ⟨E, B, δ, d1, j, f1, fun v1 H1 s1 o1 => ?_⟩
    cases d1 <;> try (cases hf; done)
    cases hf
    exact ⟨_, o1.bl j.trk, k _ _ s1 (.of_rep (.bl _) rfl)⟩
  · simp only [ev] at hf
    obtain ⟨d1, f1, hf⟩ := Rs.bind_ok hf
    cases d1 <;> try (cases hf; done)
    cases hf
    exact ⟨E, B, δ, _, j, f1, fun H1 s1 => k _ s1⟩
theorem snd_and1 {b : Ex} {y : Expr} {pos : Pos} (hb : Snd X G M c S b y) (ny : noIf y = true) : PE X (.BoolOp .And [y] pos) (rE G S (md c S b) (ev M b)) ∧ PW X (.BoolOp .And [y] pos) (rT G S (ev M b)) := ⟨pe_one hb.pe, pw_and1 (hb.pt ny)⟩
theorem snd_or1 {b : Ex} {y : Expr} {pos : Pos} (hb : Snd X G M c S b y) (ny : noIf y = true) : PE X (.BoolOp .Or [y] pos) (rE G S (md c S b) (ev M b)) ∧ PW X (.BoolOp .Or [y] pos) (rT G S (ev M b)) := ⟨pe_one hb.pe, pw_or1 (hb.pt ny)⟩
theorem snd_and {a b : Ex} {x y : Expr} {r : List Expr} {pos : Pos} (ha : Snd X G M c S a x) (nx : noIf x = true) (hb : PE X (.BoolOp .And (y :: r) pos) (rE G S (md c S b) (ev M b)) ∧ PW X (.BoolOp .And (y :: r) pos) (rT G S (ev M b))) (n : nb c S b = true) :
    Snd X G M c S (.and a b) (.BoolOp .And (x :: y :: r) pos) := by
  have w : PW X (.BoolOp .And (x :: y :: r) pos) (rT G S (ev M (.and a b))) := by
    have q := pw_and (ha.pt nx) hb.2
    refine ⟨fun wh pins s σ H Q I hw => q.run wh pins s σ H Q I ?_⟩
    obtain ⟨E, B, δ, d, j, hf, k⟩ := hw
    simp only [ev] at hf
    obtain ⟨d1, f1, hf⟩ := Rs.bind_ok hf
    cases d1 <;> try (cases hf; done)
    rename_i t
    refine ⟨E, B, δ, t, j, f1, fun H1 s1 => ?_⟩
    cases t with
    | true => exact iteT ⟨E, B, δ, d, j.same s1, hf, fun H2 s2 => k H2 (s1.trans s2)⟩
    | false =>
      cases hf
      exact iteF (k H1 s1)
  refine ⟨(pe_and ha.pe hb.1).imp fun σ H Q ⟨E, B, δ, d, j, hf, k⟩ => ?_, fun _ => w.pt, fun _ _ _ _ => w⟩
  simp only [ev] at hf
  obtain ⟨d1, f1, hf⟩ := Rs.bind_ok hf
  refine ⟨E, B, δ, d1, j, f1, fun v1 H1 s1 o1 => ?_⟩
  cases d1 <;> try (cases hf; done)
  rename_i t
  refine ⟨t, o1.bl j.trk, ?_⟩
  cases t with
  | true => exact iteT ⟨E, B, δ, d, j.same s1, hf, fun v2 H2 s2 o2 => k _ _ (s1.trans s2) (o2.f (j.same s1).trk (nb_of n))⟩
  | false =>
    cases hf
    exact iteF (k _ H1 s1 (.of_rep (.bl _) rfl))
theorem snd_or {a b : Ex} {x y : Expr} {r : List Expr} {pos : Pos} (ha : Snd X G M c S a x) (nx : noIf x = true) (hb : PE X (.BoolOp .Or (y :: r) pos) (rE G S (md c S b) (ev M b)) ∧ PW X (.BoolOp .Or (y :: r) pos) (rT G S (ev M b))) (n : nb c S b = true) :
    Snd X G M c S (.or a b) (.BoolOp .Or (x :: y :: r) pos) := by
  have w : PW X (.BoolOp .Or (x :: y :: r) pos) (rT G S (ev M (.or a b))) := by
    have q := pw_or (ha.pt nx) hb.2
    refine ⟨fun wh pins s σ H Q I hw => q.run wh pins s σ H Q I ?_⟩
    obtain ⟨E, B, δ, d, j, hf, k⟩ := hw
    simp only [ev] at hf
    obtain ⟨d1, f1, hf⟩ := Rs.bind_ok hf
    cases d1 <;> try (cases hf; done)
    rename_i t
    refine ⟨E, B, δ, t, j, f1, fun H1 s1 => ?_⟩
    cases t with
    | false => exact iteF ⟨E, B, δ, d, j.same s1, hf, fun H2 s2 => k H2 (s1.trans s2)⟩
    | true =>
      cases hf
      exact iteT (k H1 s1)
  refine ⟨(pe_or ha.pe hb.1).imp fun σ H Q ⟨E, B, δ, d, j, hf, k⟩ => ?_, fun _ => w.pt, fun _ _ _ _ => w⟩
  simp only [ev] at hf
  obtain ⟨d1, f1, hf⟩ := Rs.bind_ok hf
  refine ⟨E, B, δ, d1, j, f1, fun v1 H1 s1 o1 => ?_⟩
  cases d1 <;> try (cases hf; done)
  rename_i t
  refine ⟨t, o1.bl j.trk, ?_⟩
  cases t with
  | false => exact iteF ⟨E, B, δ, d, j.same s1, hf, fun v2 H2 s2 o2 => k _ _ (s1.trans s2) (o2.f (j.same s1).trk (nb_of n))⟩
  | true =>
    cases hf
    exact iteT (k _ H1 s1 (.of_rep (.bl _) rfl))
theorem snd_cmp {op : Cop} {a b : Ex} {x y : Expr} {pos : Pos} (o : Ok X G M c) (ha : Snd X G M c S a x) (hb : Snd X G M c S b y) (n : noSet y = true) : Snd X G M c S (.cmp op a b) (.Compare x [op.py] [y] pos) := by
  have go : ∀ σ H (Q : V → Hp → Prop), (∃ E B δ r, J G S E B σ H δ ∧ ev M (.cmp op a b) δ = .ok r ∧ ∀ b H', r = .bl b → Same H H' → Q (.bl b) H') → tOp (r2C G (dCmp op)) (rE G S (md c S a) (ev M a)) (rE G S (md c S b) (ev M b)) σ H Q := fun σ H Q ⟨E, B, δ, d, j, hf, k⟩ => by
    simp only [ev] at hf
    obtain ⟨d1, f1, hf⟩ := Rs.bind_ok hf
    obtain ⟨d2, f2, hf⟩ := Rs.bind_ok hf
    refine ⟨E, B, δ, d1, j, f1, fun v1 H1 s1 o1 => ⟨E, B, δ, d2, j.same s1, f2, fun v2 H2 s2 o2 => ?_⟩⟩
    exact ⟨OS S E σ, d1, d2, d, j.trk.same (s1.trans s2), (o1.b j.trk).same s2, o2.b (j.same s1).trk, hf, fun b e => k b H2 e (s1.trans s2)⟩
  refine ⟨(pe_cmpR (cop_all op o.K o.w o.hu) ha.pe hb.pe (noMark n)).imp fun σ H Q ⟨E, B, δ, d, j, hf, k⟩ => go σ H Q ⟨E, B, δ, d, j, hf, fun b H' e s => k _ H' s (by subst e; exact .of_rep (.bl _) rfl)⟩,
    fun _ => (pt_cmpR (cop_all op o.K o.w o.hu) ha.pe hb.pe (noMark n)).imp fun σ H Q ⟨E, B, δ, d, j, hf, k⟩ => go σ H _ ⟨E, B, δ, _, j, hf, fun b H' e s => ⟨b, rfl, by cases e; exact k H' s⟩⟩, fun _ _ _ z => nomatch z⟩
theorem lastM {op op' : CmpOp} {y z : Expr} (n : noSet z = true) : lastMarks [op, op'] [y, z] = false := by
  show behindInMarks op' z = false
  exact noMark n
theorem snd_chain {op op' : Cop} {a b d : Ex} {x y z : Expr} {pos : Pos} (o : Ok X G M c) (ha : Snd X G M c S a x) (hb : Snd X G M c S b y) (hd : Snd X G M c S d z) (n : noSet z = true) : Snd X G M c S (.chain op op' a b d) (.Compare x [op.py, op'.py] [y, z] pos) := by
  have go : ∀ σ H (Q : V → Hp → Prop), (∃ E B δ r, J G S E B σ H δ ∧ ev M (.chain op op' a b d) δ = .ok r ∧ ∀ b H', r = .bl b → Same H H' → Q (.bl b) H') →
      tChain (r2C G (dCmp op)) (r2C G (dCmp op')) (rE G S (md c S a) (ev M a)) (rE G S (md c S b) (ev M b)) (rE G S (md c S d) (ev M d)) σ H Q := fun σ H Q ⟨E, B, δ, r, j, hf, k⟩ => by
    simp only [ev] at hf
    obtain ⟨d1, f1, hf⟩ := Rs.bind_ok hf
    obtain ⟨d2, f2, hf⟩ := Rs.bind_ok hf
    obtain ⟨t, f3, hf⟩ := Rs.bind_ok hf
    refine ⟨E, B, δ, d1, j, f1, fun v1 H1 s1 o1 => ⟨E, B, δ, d2, j.same s1, f2, fun v2 H2 s2 o2 => ?_⟩⟩
    refine ⟨OS S E σ, d1, d2, t, j.trk.same (s1.trans s2), (o1.b j.trk).same s2, o2.b (j.same s1).trk, f3, fun u e => ⟨u, rfl, ?_⟩⟩
    subst e
    cases u with
    | false =>
      rw [if_neg Bool.false_ne_true]
      cases hf
      exact k _ H2 rfl (s1.trans s2)
    | true =>
      rw [if_pos rfl]
      obtain ⟨d4, f4, hf⟩ := Rs.bind_ok (x := ev M d δ) hf
      have j2 := j.same (s1.trans s2)
      refine ⟨E, B, δ, d4, j2, f4, fun v3 H3 s3 o3 => ?_⟩
      exact ⟨OS S E σ, d2, d4, r, j2.trk.same s3, (o2.b (j.same s1).trk).same s3, o3.b j2.trk, hf, fun b e => k b H3 e ((s1.trans s2).trans s3)⟩
  refine ⟨(pe_chain (cop_all op o.K o.w o.hu) (cop_all op' o.K o.w o.hu) ha.pe hb.pe hd.pe (lastM n)).imp fun σ H Q ⟨E, B, δ, d, j, hf, k⟩ => go σ H Q ⟨E, B, δ, d, j, hf, fun b H' e s => k _ H' s (by subst e; exact .of_rep (.bl _) rfl)⟩,
    fun _ => (pt_chain (cop_all op o.K o.w o.hu) (cop_all op' o.K o.w o.hu) ha.pe hb.pe hd.pe (lastM n)).imp fun σ H Q ⟨E, B, δ, d, j, hf, k⟩ => go σ H _ ⟨E, B, δ, _, j, hf, fun b H' e s => ⟨b, rfl, by cases e; exact k H' s⟩⟩, fun _ _ _ z => nomatch z⟩
theorem snd_ite {k a b : Ex} {x y z : Expr} {pos : Pos} (hk : Snd X G M c S k x) (nx : noIf x = true) (ha : Snd X G M c S a y) (hb : Snd X G M c S b z) (na : nb c S a = true) (n : nb c S b = true) : Snd X G M c S (.ite k a b) (.IfExp x y z pos) := by
  refine Snd.of ((pe_ifExp (hk.pt nx) ha.pe hb.pe).imp fun σ H Q ⟨E, B, δ, d, j, hf, q⟩ => ?_) (fun z => nomatch z) (fun _ _ _ z => nomatch z)
  simp only [ev] at hf
  obtain ⟨d1, f1, hf⟩ := Rs.bind_ok hf
  cases d1 <;> try (cases hf; done)
  rename_i t
  refine ⟨E, B, δ, t, j, f1, fun H1 s1 => ?_⟩
  cases t with
  | true => exact iteT ⟨E, B, δ, d, j.same s1, hf, fun v2 H2 s2 o2 => q _ _ (s1.trans s2) (o2.f (j.same s1).trk (nb_of na))⟩
  | false => exact iteF ⟨E, B, δ, d, j.same s1, hf, fun v2 H2 s2 o2 => q _ _ (s1.trans s2) (o2.f (j.same s1).trk (nb_of n))⟩
theorem snd_tup {es : Exs} {xs : List Expr} {k : Nat} {pos : Pos} (h : PA X xs (rA G S (nbs c S es) (evs M es))) (n : nbs c S es = true) : Snd X G M c S (.tup es) (.Tuple xs k pos) := by
  refine Snd.of ((pe_tup h).imp fun σ H Q ⟨E, B, δ, d, j, hf, q⟩ => ?_) (fun _ _ => rfl) (fun _ _ _ z => nomatch z)
  simp only [ev] at hf
  obtain ⟨ds, f1, hf⟩ := Rs.bind_ok hf
  split at hf
  · rename_i hz
    cases hf
    refine ⟨E, B, δ, ds, j, f1, fun vs H1 s1 _ r => ?_⟩
    have r' := r n
    exact ⟨by rw [r'.length]; exact hz, fun p hp => q _ _ (s1.trans (same_new hp)) (new_tup (j.same s1).trk hp r')⟩
  · cases hf
theorem snd_lst {es : Exs} {xs : List Expr} {pos : Pos} (h : PA X xs (rA G S (nbs c S es) (evs M es))) (n : nbs c S es = true) : Snd X G M c S (.lst es) (.List xs pos) := by
  refine Snd.of ((pe_lst h).imp fun σ H Q ⟨E, B, δ, d, j, hf, q⟩ => ?_) (fun _ _ => rfl) (fun _ _ _ z => nomatch z)
  simp only [ev] at hf
  obtain ⟨ds, f1, hf⟩ := Rs.bind_ok hf
  split at hf
  · rename_i hz
    cases hf
    refine ⟨E, B, δ, ds, j, f1, fun vs H1 s1 _ r => ?_⟩
    have r' := r n
    exact ⟨by rw [r'.length]; exact hz, fun p hp => q _ _ (s1.trans (same_new hp)) (Out.of_retO (.mono s1 (new_lst hp r')))⟩
  · cases hf
theorem snd_ix {a b : Ex} {x y : Expr} {pos : Pos} (o : Ok X G M c) (ha : Snd X G M c S a x) (hb : Snd X G M c S b y) (n : noSlice y = true) : Snd X G M c S (.ix a b) (.Subscript x y pos) := by
  refine Snd.of ((pe_ix (ix_all o.K o.w o.hu) ha.pe hb.pe (plainIx n)).imp fun σ H Q ⟨E, B, δ, d, j, hf, k⟩ => ?_) (fun _ _ => rfl) (fun _ _ _ z => nomatch z)
  simp only [ev] at hf
  obtain ⟨d1, f1, hf⟩ := Rs.bind_ok hf
  obtain ⟨d2, f2, hf⟩ := Rs.bind_ok hf
  refine ⟨E, B, δ, d1, j, f1, fun v1 H1 s1 o1 => ⟨E, B, δ, d2, j.same s1, f2, fun v2 H2 s2 o2 => ?_⟩⟩
  exact ⟨OS S E σ, d1, d2, d, j.trk.same (s1.trans s2), (o1.b j.trk).same s2, o2.b (j.same s1).trk, hf, fun v r => k v H2 (s1.trans s2) r⟩
theorem snd_sl {a : Ex} {lo hi : Ox} {x : Expr} {l h : Option Expr} {pos pos' : Pos} (o : Ok X G M c) (ha : Snd X G M c S a x)
    (hl : PO X l fun σ H Q => ∃ E B δ i, J G S E B σ H δ ∧ evo M lo δ = .ok i ∧ ∀ H', Same H H' → Q i H') (hh : PO X h fun σ H Q => ∃ E B δ i, J G S E B σ H δ ∧ evo M hi δ = .ok i ∧ ∀ H', Same H H' → Q i H') :
    Snd X G M c S (.sl a lo hi) (.Subscript x (.Slice l h none pos') pos) := by
  refine Snd.of ((pe_slice (sl_all o.K) ha.pe hl hh).imp fun σ H Q ⟨E, B, δ, d, j, hf, k⟩ => ?_) (fun _ _ => rfl) (fun _ _ _ z => nomatch z)
  simp only [ev] at hf
  obtain ⟨d1, f1, hf⟩ := Rs.bind_ok hf
  obtain ⟨d2, f2, hf⟩ := Rs.bind_ok hf
  obtain ⟨d3, f3, hf⟩ := Rs.bind_ok hf
  refine ⟨E, B, δ, d1, j, f1, fun v1 H1 s1 o1 => ⟨E, B, δ, d2, j.same s1, f2, fun H2 s2 => ⟨E, B, δ, d3, j.same (s1.trans s2), f3, fun H3 s3 => ?_⟩⟩⟩
  have s12 := (s1.trans s2).trans s3
  exact ⟨OS S E σ, d1, d, j.trk.same s12, (o1.b j.trk).same (s2.trans s3), hf, fun v H' s r => k v H' (s12.trans s) (Out.of_retO (.mono s12 r))⟩
theorem Reps.map' {O : Addr → Prop} {H : Hp} {α : Type} {f : α → V} {g : α → D} (h : ∀ x, Rep G O H (f x) (g x)) : ∀ l : List α, Reps G O H (l.map f) (l.map g)
  | [] => .nil
  | x :: l => .cons (h x) (Reps.map' h l)
theorem iota_rg (lo : Int) : ∀ n : Nat, iota lo n = (List.range n).map fun i : Nat => D.int (lo + (i : Int))
  | 0 => rfl
  | n + 1 => by
    rw [iota, iota_rg (lo + 1) n, List.range_succ_eq_map, List.map_cons, List.map_map]
    refine congr (congrArg _ (by simp)) (List.map_congr_left fun i _ => ?_)
    simp only [Function.comp, D.int.injEq]
    omega
theorem reps_rg {O : Addr → Prop} {H : Hp} (a b : Int) : Reps G O H (rgV a b) (iota a (b - a).toNat) := by
  rw [iota_rg]
  exact Reps.map' (fun i => .int _) _
theorem Reps.rep {O : Addr → Prop} {H : Hp} {vs : List V} {ds : List D} (h : Reps G O H vs ds) : ∀ n : Nat, Reps G O H (List.replicate n vs).flatten (List.replicate n ds).flatten
  | 0 => .nil
  | n + 1 => by
    rw [List.replicate_succ, List.replicate_succ, List.flatten_cons, List.flatten_cons]
    exact h.append (Reps.rep h n)
theorem okI_lim {i : Int} (h : okI i = true) : -(2 ^ 62) ≤ i ∧ i < 2 ^ 62 := by
  unfold okI at h
  rw [Bool.and_eq_true] at h
  exact ⟨of_decide_eq_true h.1, of_decide_eq_true h.2⟩
theorem snd_rpl {es : Exs} {k : Ex} {xs : List Expr} {y : Expr} {pos posl : Pos} (o : Ok X G M c) (h : PA X xs (rA G S (nbs c S es) (evs M es))) (n : nbs c S es = true) (hk : Snd X G M c S k y) : Snd X G M c S (.rpl es k) (.BinOp (.List xs posl) .Mult y pos) := by
  refine Snd.of ((pe_op op_rep (pe_lst h) hk.pe).imp fun σ H Q ⟨E, B, δ, d, j, hf, q⟩ => ?_) (fun _ _ => rfl) (fun _ _ _ z => nomatch z)
  simp only [ev] at hf
  obtain ⟨ds, f1, hf⟩ := Rs.bind_ok hf
  obtain ⟨d2, f2, hf⟩ := Rs.bind_ok hf
  cases d2 <;> try (cases hf; done)
  rename_i i
  simp only at hf
  split at hf
  · rename_i hz
    cases hf
    rw [Bool.and_eq_true, Bool.and_eq_true, decide_eq_true_eq, decide_eq_true_eq] at hz
    have hi := okI_lim hz.1.1
    refine ⟨E, B, δ, ds, j, f1, fun vs H1 s1 _ r => ?_⟩
    have r' := r n
    refine ⟨by rw [r'.length]; exact hz.1.2, fun p hp => ?_⟩
    have s2 := s1.trans (same_new (o := .lst vs) hp)
    refine ⟨E, B, δ, _, j.same s2, f2, fun v2 H3 s3 o3 => ⟨p, i, vs, rfl, o3.int (j.same s2).trk, s3 _ _ upd_same, by omega, by omega, by rw [r'.length]; exact hz.2, fun q0 hq => ?_⟩⟩
    exact q _ _ ((s2.trans s3).trans (same_new hq)) (Out.of_retO (.mono (s2.trans s3) (new_lst hq ((r'.same ((same_new hp).trans s3)).rep i.toNat))))
  · cases hf
theorem slicePick_rev (items : Array Value) : slicePick items none none (some (-1)) = items.toList.reverse.toArray := PySem.W.krv_pick items
theorem vals_rev' {xs : List V} {us : List Value} (h : Vals xs us) : Vals xs.reverse us.reverse := h.reverse
theorem reps_rev {O : Addr → Prop} {H : Hp} : ∀ {vs : List V} {ds : List D}, Reps G O H vs ds → Reps G O H vs.reverse ds.reverse
  | _, _, .nil => .nil
  | _, _, .cons h1 r => by rw [List.reverse_cons, List.reverse_cons]; exact (reps_rev r).append (.cons h1 .nil)
/-- xs[::k], k = -1 -/
theorem pe_stp {e st : Expr} {te tk : TE} {p2 pos : Pos} (he : PE X e te) (hk : PE X st tk) :
    PE X (.Subscript e (.Slice none none (some st) p2) pos) (fun σ H Q => te σ H fun x H1 => tk σ H1 fun k H2 => ∃ a xs, x = .ref a ∧ k = .int (-1) ∧ SqL X.K H2 a xs ∧ ∀ p, H2 p = none → Q (.ref p) (upd H2 p (.lst xs.reverse))) := by
  refine ⟨fun pins s σ H Q I h => ?_⟩
  refine Subscript_ (thn (he.run pins s σ H _ I h) fun v s1 ⟨x, H1, I1, r1, q1⟩ => ?_)
  refine wpAny_Slice ?_
  rw [evalPart_none]
  refine wpAny_pure ?_
  refine wpAny_pure ?_
  rw [evalPart_some]
  refine thn (hk.run pins s1 σ H1 _ I1 q1) fun vk s3 ⟨k, H3, I3, rk, q3⟩ => ?_
  obtain ⟨a, xs, rfl, rfl, hx, q⟩ := q3
  obtain ⟨t, rfl⟩ := rk
  have pk : IsPart (Value.int (-1) t) (some (-1)) := .int _ _
  cases r1
  have I4 : Inv X pins σ H3 { s3 with heap := s3.heap.push { cls := .type "slice", data := .fields #[.none, .none, .int (-1) t] } } := I3.kept (t' := s3.toks) fun b ob q => Heap.get?_push_of_some _ q
  obtain ⟨its, r, ht, hz⟩ := I4.list hx
  show wpAny (model X.prog X.w) X.A (subscriptTail e (.Slice none none (some st) p2) (.ref a) (.ref s3.heap.objs.size)) (EP X pins σ Q) X.xe { s3 with heap := s3.heap.push { cls := .type "slice", data := .fields #[.none, .none, .int (-1) t] } }
  refine tail_any (ops := [.ref a, .ref s3.heap.objs.size]) ht.isList.typeIs slot_list_getitem.lookup ?_ (by with_unfolding_all rfl)
  refine wpAny_getItem_list_slice ht.isList (Heap.IsSliceOf.new ..) .none .none pk (by decide) ?_ (by rw [List.size_toArray, ← r.length]; exact hz)
  rw [slicePick_rev]
  refine ⟨.ref _, _, I4.laid (t' := s3.toks) (o := .lst xs.reverse) (fun b ob q => Heap.get?_push_of_some _ q) (Nat.le_refl _) ?_, rfl, q _ (I4.hok.fresh (Nat.le_refl _))⟩
  exact ⟨by rw [List.length_reverse]; exact hz, _, 0, vals_rev' r, Heap.get?_push_size _ rfl⟩
theorem snd_stp {a k : Ex} {x y : Expr} {pos p2 : Pos} (o : Ok X G M c) (ha : Snd X G M c S a x) (hk : Snd X G M c S k y) : Snd X G M c S (.stp a k) (.Subscript x (.Slice none none (some y) p2) pos) := by
  refine Snd.of ((pe_stp ha.pe hk.pe).imp fun σ H Q ⟨E, B, δ, d, j, hf, q⟩ => ?_) (fun _ _ => rfl) (fun _ _ _ z => nomatch z)
  simp only [ev] at hf
  obtain ⟨d1, f1, hf⟩ := Rs.bind_ok hf
  obtain ⟨d2, f2, hf⟩ := Rs.bind_ok hf
  cases d1 <;> cases d2 <;> try (cases hf; done)
  rename_i ds i
  simp only at hf
  split at hf
  · rename_i hz
    subst hz
    cases hf
    refine ⟨E, B, δ, _, j, f1, fun v1 H1 s1 o1 => ⟨E, B, δ, _, j.same s1, f2, fun v2 H2 s2 o2 => ?_⟩⟩
    have j1 := j.same s1
    obtain ⟨p, xs, rfl, hp, rr⟩ := ((o1.b j.trk).same s2).lst
    refine ⟨p, xs, rfl, o2.int j1.trk, o.K ▸ hp, fun q0 hq => ?_⟩
    exact q _ _ ((s1.trans s2).trans (same_new hq)) (Out.of_retO (.mono (s1.trans s2) (new_lst hq (reps_rev rr))))
  · cases hf
theorem rg_of {H0 : Hp} {E : Ev} {B : Hp} {σ : L2.St} {H : Hp} {δ : Env} {t : Bool} {a b : Int} {q : Addr} (j : J G S E B σ H δ) (s : Same H0 H) (hq : H q = none) : Out G .new (OS S E σ) H0 (upd H q (if t then .tup (rgV a b) else .lst (rgV a b))) (.ref q) (if t then .tup (iota a (b - a).toNat) else .lst (iota a (b - a).toNat)) := by
  cases t with
  | false => exact Out.of_retO (.mono s (new_lst hq (reps_rg a b)))
  | true => exact Out.of_rep (new_tup j.trk hq (reps_rg a b)) rfl
theorem snd_rgA {t : Bool} {a : Ex} {x : Expr} {p p2 pos pos2 : Pos} (o : Ok X G M c) (h1 : rgN t ∈ c.bl) (h2 : glb X.env.scope (rgN t) = true) (h3 : ("range" : Str) ∈ c.bl) (h4 : glb X.env.scope "range" = true) (ha : Snd X G M c S a x) (n : noStar x = true) (hh : c.hot = false) :
    Snd X G M c S (.rgA t a) (.Call (.Name (rgN t) p) [.Call (.Name "range" p2) [x] [] pos2] [] pos) := by
  have hr := prg_1 (X := X) (p := p2) (pos := pos2) (glb_of h4) (o.bl _ h3) ha.pe (starEach_cons n)
  have go : ∀ σ H Q, rE G S .new (ev M (.rgA t a)) σ H Q → tRg1 (rE G S (md c S a) (ev M a)) σ H fun i k H1 => RgOk i k ∧ ∀ q, H1 q = none → Q (.ref q) (upd H1 q (if t then .tup (rgV i k) else .lst (rgV i k))) := by
    intro σ H Q ⟨E, B, δ, d, j, hf, k⟩
    simp only [ev] at hf
    obtain ⟨d1, f1, hf⟩ := Rs.bind_ok hf
    cases d1 <;> try (cases hf; done)
    rename_i i
    simp only at hf
    split at hf
    · rename_i hz
      cases hf
      rw [Bool.and_eq_true, decide_eq_true_eq] at hz
      have hi := okI_lim hz.1
      refine ⟨E, B, δ, _, j, f1, fun v1 H1 s1 o1 => ⟨i, o1.int j.trk, ⟨by omega, by omega, hi.1, hi.2, by omega⟩, fun q hq => ?_⟩⟩
      have r := rg_of (t := t) (a := 0) (b := i) (j.same s1) s1 hq
      rw [Int.sub_zero] at r
      exact k _ _ (s1.trans (same_new hq)) r
    · cases hf
  cases t with
  | false => exact Snd.of ((pe_listRg (o.cm hh) (glb_of h2) (o.bl _ h1) hr rfl).imp fun σ H Q z => go σ H Q z) (fun _ _ => rfl) (fun _ _ _ z => nomatch z)
  | true => exact Snd.of ((pe_tupRg (o.cm hh) (glb_of h2) (o.bl _ h1) hr rfl).imp fun σ H Q z => go σ H Q z) (fun _ _ => rfl) (fun _ _ _ z => nomatch z)
theorem snd_rgB {t : Bool} {a b : Ex} {x y : Expr} {p p2 pos pos2 : Pos} (o : Ok X G M c) (h1 : rgN t ∈ c.bl) (h2 : glb X.env.scope (rgN t) = true) (h3 : ("range" : Str) ∈ c.bl) (h4 : glb X.env.scope "range" = true) (ha : Snd X G M c S a x) (n : noStar x = true) (hb : Snd X G M c S b y) (n' : noStar y = true) (hh : c.hot = false) :
    Snd X G M c S (.rgB t a b) (.Call (.Name (rgN t) p) [.Call (.Name "range" p2) [x, y] [] pos2] [] pos) := by
  have hr := prg_2 (X := X) (p := p2) (pos := pos2) (glb_of h4) (o.bl _ h3) ha.pe hb.pe (starEach_cons n) (starEach_cons n') (starEach_none (by simp [n']))
  have go : ∀ σ H Q, rE G S .new (ev M (.rgB t a b)) σ H Q → tRg2 (rE G S (md c S a) (ev M a)) (rE G S (md c S b) (ev M b)) σ H fun i k H1 => RgOk i k ∧ ∀ q, H1 q = none → Q (.ref q) (upd H1 q (if t then .tup (rgV i k) else .lst (rgV i k))) := by
    intro σ H Q ⟨E, B, δ, d, j, hf, k⟩
    simp only [ev] at hf
    obtain ⟨d1, f1, hf⟩ := Rs.bind_ok hf
    obtain ⟨d2, f2, hf⟩ := Rs.bind_ok hf
    cases d1 <;> cases d2 <;> try (cases hf; done)
    rename_i i _ i2
    simp only at hf
    split at hf
    · rename_i hz
      cases hf
      rw [Bool.and_eq_true, Bool.and_eq_true, decide_eq_true_eq] at hz
      have hi := okI_lim hz.1.1
      have hi2 := okI_lim hz.1.2
      refine ⟨E, B, δ, _, j, f1, fun v1 H1 s1 o1 => ⟨E, B, δ, _, j.same s1, f2, fun v2 H2 s2 o2 => ⟨i, i2, o1.int j.trk, o2.int (j.same s1).trk, ⟨hi.1, hi.2, hi2.1, hi2.2, by omega⟩, fun q hq => ?_⟩⟩⟩
      exact k _ _ ((s1.trans s2).trans (same_new hq)) (rg_of (t := t) (j.same (s1.trans s2)) (s1.trans s2) hq)
    · cases hf
  cases t with
  | false => exact Snd.of ((pe_listRg (o.cm hh) (glb_of h2) (o.bl _ h1) hr rfl).imp fun σ H Q z => go σ H Q z) (fun _ _ => rfl) (fun _ _ _ z => nomatch z)
  | true => exact Snd.of ((pe_tupRg (o.cm hh) (glb_of h2) (o.bl _ h1) hr rfl).imp fun σ H Q z => go σ H Q z) (fun _ _ => rfl) (fun _ _ _ z => nomatch z)
/-! ### x in range(a) -/
theorem cr_range1 {X : Cx} : CallR X (.type "range") (fun vs H Q => ∃ j, vs = [V.int j] ∧ ∀ p, H p = none → Q (.ref p) (upd H p (.rng 0 j))) := by
  intro pins s σ H vs us Q I r h
  obtain ⟨j, rfl, q⟩ := h
  cases r with
  | cons r rr =>
    cases rr
    obtain ⟨t, rfl⟩ := r
    exact call_range_1 ⟨.ref s.heap.objs.size, upd H s.heap.objs.size (.rng 0 j), I.laid (t' := _) (fun b o e => Heap.get?_push_of_some _ e) (Nat.le_refl _) ⟨_, _, _, Heap.get?_push_size _ rfl⟩, rfl, q _ (I.hok.fresh (Nat.le_refl _))⟩
theorem op_notIn_rng {X : Cx} : OpR X (compareOp .NotIn) (fun x y H Q => ∃ i a lo hi, x = V.int i ∧ y = V.ref a ∧ H a = some (.rng lo hi) ∧ Q (.bl (!decide (lo ≤ i ∧ i < hi))) H) := by
  intro pins s σ H x y v u Q I rx ry h
  obtain ⟨i, a, lo, hi, rfl, rfl, ha, q⟩ := h
  obtain ⟨k, rfl⟩ := rx
  obtain rfl : u = Value.ref a := ry
  obtain ⟨t1, t2, t3, ho⟩ := I.hok a _ ha
  show wpAny _ _ (do return Value.bool (!(← contains (Value.ref a) (Value.int i k)))) _ _ s
  refine wpAny_bind (wpAny_contains_slot (T := "range") ⟨_, ho, rfl⟩ F.slot_range_contains (call_meets F.slot_range_contains ⟨_, ho, rfl⟩ F.entry_range_contains (F.args_range_contains_2 _ _) (q_contains a lo hi i t1 t2 t3 k)
    ⟨ho, wpAny_truthy_bool (wpAny_pure ⟨.bl _, H, I, rfl, ?_⟩)⟩))
  rw [place1]
  exact q
theorem snd_inr {n : Bool} {e a : Ex} {x y : Expr} {p p2 pos : Pos} (o : Ok X G M c) (he : Snd X G M c S e x) (h1 : ("range" : Str) ∈ c.bl) (h2 : glb X.env.scope "range" = true) (ha : Snd X G M c S a y) (ny : noStar y = true) :
    Snd X G M c S (.inr n e a) (.Compare x [if n then .NotIn else .In] [.Call (.Name "range" p) [y] [] p2] pos) := by
  have hr := pe_callTy (X := X) (p := p) (pos := p2) (cr_range1 (X := X)) (glb_of h2) (o.bl _ h1) boot_range (pa_cons ha.pe pa_nil (starEach_cons ny)) (by decide) (by decide) (starEach_cons ny) rfl
  have go : ∀ σ H (Q : V → Hp → Prop), (∃ E B δ r, J G S E B σ H δ ∧ ev M (.inr n e a) δ = .ok r ∧ ∀ b H', r = .bl b → Same H H' → Q (.bl b) H') →
      tOp (fun x y H Q => ∃ i a lo hi, x = V.int i ∧ y = V.ref a ∧ H a = some (.rng lo hi) ∧ Q (.bl (if n then !decide (lo ≤ i ∧ i < hi) else decide (lo ≤ i ∧ i < hi))) H) (rE G S (md c S e) (ev M e)) (tCB (fun vs H Q => ∃ j, vs = [V.int j] ∧ ∀ p, H p = none → Q (.ref p) (upd H p (.rng 0 j))) (tCons (rE G S (md c S a) (ev M a)) tNil)) σ H Q := fun σ H Q ⟨E, B, δ, d, j, hf, k⟩ => by
    simp only [ev] at hf
    obtain ⟨d1, f1, hf⟩ := Rs.bind_ok hf
    obtain ⟨d2, f2, hf⟩ := Rs.bind_ok hf
    cases d1 <;> cases d2 <;> try (cases hf; done)
    rename_i i1 _ i2
    cases hf
    refine ⟨E, B, δ, _, j, f1, fun v1 H1 s1 o1 => ⟨E, B, δ, _, j.same s1, f2, fun v2 H2 s2 o2 => ⟨i2, by rw [o2.int (j.same s1).trk], fun q hq => ⟨i1, q, 0, i2, o1.int j.trk, rfl, upd_same, ?_⟩⟩⟩⟩
    exact k _ _ rfl ((s1.trans s2).trans (same_new hq))
  have nm : behindInMarks (if n then .NotIn else .In) (.Call (.Name "range" p) [y] [] p2) = false := noMark rfl
  cases n with
  | false =>
    exact ⟨(pe_cmpR op_in_rng he.pe hr nm).imp fun σ H Q ⟨E, B, δ, d, j, hf, k⟩ => go σ H Q ⟨E, B, δ, d, j, hf, fun b H' e s => k _ H' s (by subst e; exact .of_rep (.bl _) rfl)⟩,
      fun _ => (pt_cmpR op_in_rng he.pe hr nm).imp fun σ H Q ⟨E, B, δ, d, j, hf, k⟩ => go σ H _ ⟨E, B, δ, _, j, hf, fun b H' e s => ⟨b, rfl, by cases e; exact k H' s⟩⟩, fun _ _ _ z => nomatch z⟩
  | true =>
    exact ⟨(pe_cmpR op_notIn_rng he.pe hr nm).imp fun σ H Q ⟨E, B, δ, d, j, hf, k⟩ => go σ H Q ⟨E, B, δ, d, j, hf, fun b H' e s => k _ H' s (by subst e; exact .of_rep (.bl _) rfl)⟩,
      fun _ => (pt_cmpR op_notIn_rng he.pe hr nm).imp fun σ H Q ⟨E, B, δ, d, j, hf, k⟩ => go σ H _ ⟨E, B, δ, _, j, hf, fun b H' e s => ⟨b, rfl, by cases e; exact k H' s⟩⟩, fun _ _ _ z => nomatch z⟩

/-! ### displays of dicts -/
def cV : Cst → V
  | .int i => .int i
  | .str s => .str s
  | .bl b => .bl b
  | .non => .non
def cK : Cst → Key
  | .int i => .inl i
  | .str s => .inr s
  | _ => .inl 0
theorem cK_d {k : Cst} (h : isK k.d = true) : k.d = kD (cK k) ∧ cV k = kV (cK k) := by
  cases k <;> first | exact ⟨rfl, rfl⟩ | cases h
def trsOf (G : Wh) (M : Mn) (c : Cn) (S : List Nat) : List Cst → Exs → List (TE × TE)
  | k :: ks, .cons e es => (rE G S (md c S (.cst k)) (ev M (.cst k)), rE G S (md c S e) (ev M e)) :: trsOf G M c S ks es
  | _, _ => []
theorem merge_reps {O : Addr → Prop} {H : Hp} : ∀ {ks : List Cst} {vs : List V} {ds : List D} {acc : List (Key × V)} {accD : List (D × D)}, RepsK G O H acc accD → Reps G O H vs ds → (∀ k ∈ ks, isK k.d = true) →
    RepsK G O H (mergeK acc ((ks.zip vs).map fun p => (cK p.1, p.2))) (((ks.map Cst.d).zip ds).foldl (fun kvs p => dPut kvs p.1 p.2) accD)
  | [], _, _, _, _, r, _, _ => r
  | _ :: _, _, _, _, _, r, .nil, _ => r
  | k :: ks, _, _, _, _, r, .cons h q, hk => by
    have e := (cK_d (hk k (List.mem_cons_self ..))).1
    rw [List.zip_cons_cons, List.map_cons, List.map_cons, List.zip_cons_cons, List.foldl_cons]
    show RepsK G O H (mergeK (putK _ (cK k) _) _) _
    refine merge_reps ?_ q fun k' h' => hk k' (List.mem_cons_of_mem _ h')
    show RepsK G O H _ (dPut _ k.d _)
    rw [e]
    exact r.put h
theorem pairs_of {B : Hp} {E : Ev} {σ : L2.St} {δ : Env} : ∀ {ks : List Cst} {es : Exs} {ds : List D} {H : Hp} {Q : List (V × V) → Hp → Prop}, J G S E B σ H δ → nbs c S es = true → evs M es δ = .ok ds → ks.length = ds.length →
    (∀ vs H', Same H H' → Reps G (OS S E σ) H' vs ds → Q ((ks.zip vs).map fun p => (cV p.1, p.2)) H') → tPairs (trsOf G M c S ks es) σ H Q
  | [], es, ds, H, Q, j, n, f, l, k => by
    cases ds with
    | cons _ _ => cases l
    | nil =>
      have := k [] H (Same.refl H) .nil
      cases es <;> exact this
  | a :: ks, .nil, ds, H, Q, j, n, f, l, k => by
    cases f
    cases l
  | a :: ks, .cons e es, ds, H, Q, j, n, f, l, k => by
    simp only [evs] at f
    obtain ⟨d, f1, f⟩ := Rs.bind_ok f
    obtain ⟨r, f2, f⟩ := Rs.bind_ok f
    cases f
    simp only [nbs, Bool.and_eq_true] at n
    refine ⟨E, B, δ, a.d, j, rfl, fun v0 H0 s0 o0 => ⟨E, B, δ, d, j.same s0, f1, fun v1 H1 s1 o1 => ?_⟩⟩
    have e0 : v0 = cV a := by
      have := o0.b j.trk
      cases a with
      | int i => exact this.int
      | str i => exact this.str
      | bl i => exact this.bl
      | non => exact this.non
    subst e0
    have r1 := o1.f (j.same s0).trk (nb_of n.1)
    refine pairs_of (j.same (s0.trans s1)) n.2 f2 (by simpa using l) fun vs H' s r => ?_
    exact k (v1 :: vs) H' ((s0.trans s1).trans s) (.cons (r1.same s) r)
theorem snd_dsp {ks : List Cst} {es : Exs} {keys : List (Option Expr)} {vals : List Expr} {pos : Pos} (h : PPs X pos keys vals (trsOf G M c S ks es)) (hall : keys.all (·.isSome) = true) (hl : keys.length = vals.length) (h0 : keys ≠ []) (h15 : keys.length ≤ 15) (hk : ks.length = keys.length) (n : nbs c S es = true) :
    Snd X G M c S (.dsp ks es) (.Dict keys vals pos) := by
  refine Snd.of ((pe_disp h hall hl h0 h15).imp fun σ H Q ⟨E, B, δ, d, j, hf, q⟩ p hp => ?_) (fun _ _ => rfl) (fun _ _ _ z => nomatch z)
  simp only [ev] at hf
  obtain ⟨ds, f1, hf⟩ := Rs.bind_ok hf
  split at hf
  · rename_i hz
    cases hf
    have hks : ∀ k ∈ ks, isK k.d = true := List.all_eq_true.mp hz.2
    have j1 : J G S { E with own := fun a => E.own a ∨ a = p } B σ (upd H p (.dK [])) δ := j.moreE (fun a o => o.elim .inl fun e => .inr (e ▸ hp)) (fun a o => .inl o) (same_new hp) (fun a o => by
      rcases o with o | rfl
      · obtain ⟨u, e, m⟩ := j.ex a o
        exact ⟨u, (same_new hp) a u e, m⟩
      · exact ⟨_, upd_same, rfl⟩)
    refine pairs_of j1 n f1 hz.1.symm fun vs H2 s2 r2 => ?_
    have e2 : H2 p = some (.dK []) := s2 _ _ upd_same
    refine ⟨e2, (ks.zip vs).map fun x => (cK x.1, x.2), ?_, ?_, ?_⟩
    · rw [List.map_map]
      refine List.map_congr_left fun x hx => ?_
      show (cV x.1, x.2) = (kV (cK x.1), x.2)
      rw [(cK_d (hks x.1 (List.of_mem_zip hx).1)).2]
    · rw [List.length_map, List.length_zip]
      omega
    · have s3 : Same H (upd H2 p (.dK (mergeK [] ((ks.zip vs).map fun x => (cK x.1, x.2))))) := fun a u e => by
        have hne : a ≠ p := fun z => by rw [z, hp] at e; cases e
        rw [upd_ne hne]
        exact s2 _ _ ((same_new hp) a u e)
      refine q _ _ s3 (Out.of_retO (new_own hp (.mkF upd_same rfl (trk_one upd_same rfl) ?_)))
      refine merge_reps .nil (r2.ext fun a u e nO => ?_) hks
      have hne : a ≠ p := fun z => nO (.inl (.inr z))
      refine ⟨by rw [upd_ne hne]; exact e, fun o => ?_⟩
      rcases o with o | o
      · rcases o with o | o
        · exact nO (.inl (.inl o))
        · exact nO (.inr o)
      · exact hne o
  · cases hf
/-! ### dicts -/
theorem noC_base {x : Expr} {m : Str} {env : PySem.Env} (h : noC x = true) : attributeBase x m env (eval x env) = eval x env := by
  cases x <;> first | rfl | cases h
theorem snd_dnw {t : Bool} {pos : Pos} (o : Ok X G M c) : Snd X G M c S (.dnw t) (.Dict [] [] pos) := by
  refine Snd.of ?_ (fun _ _ => rfl) (fun _ _ _ z => nomatch z)
  cases t with
  | false =>
    refine pe_dnewK.imp fun σ H Q ⟨E, B, δ, d, j, hf, k⟩ => ?_
    cases hf
    exact fun p hp => k _ _ (same_new hp) (Out.of_retO (new_own hp (.mkF upd_same rfl (trk_one upd_same rfl) .nil)))
  | true =>
    refine ⟨fun pins s σ H Q I ⟨E, B, δ, d, j, hf, k⟩ => ?_⟩
    cases hf
    refine n_new I fun p s' hp I' => ⟨.ref p, _, I', rfl, k _ _ (same_new hp) (Out.of_retO (new_own hp (.mkT (xs := []) ?_ rfl (trk_one upd_same rfl) .nil)))⟩
    rw [o.w]; exact upd_same
theorem snd_dnl {pos : Pos} (o : Ok X G M c) : Snd X G M c S .dnl (.Dict [] [] pos) := by
  refine Snd.of ?_ (fun _ _ => rfl) (fun _ _ _ z => nomatch z)
  refine ⟨fun pins s σ H Q I ⟨E, B, δ, d, j, hf, k⟩ => ?_⟩
  cases hf
  refine n_new I fun p s' hp I' => ⟨.ref p, _, I', rfl, k _ _ (same_new hp) (Out.of_retO (new_own hp ⟨rfl, trk_one upd_same rfl, .inr (.inr (.inr (.inr (.inl ⟨[], [], rfl, ?_, List.Pairwise.nil, rfl, fun i x kv h => by simp at h⟩))))⟩))⟩
  rw [o.w]; exact upd_same
theorem snd_nln {pos : Pos} (o : Ok X G M c) : Snd X G M c S .nln (.List [] pos) := by
  refine Snd.of ((pe_lst pa_nil).imp fun σ H Q ⟨E, B, δ, d, j, hf, q⟩ => ?_) (fun _ _ => rfl) (fun _ _ _ z => nomatch z)
  cases hf
  exact ⟨by decide, fun p hp => q _ _ (same_new hp) (Out.of_retO (new_own hp ⟨rfl, trk_one upd_same rfl, .inr (.inr (.inr (.inl ⟨[], [], rfl, upd_same, List.Pairwise.nil, rfl, fun i x kv h => by simp at h⟩)))⟩))⟩
theorem tr1 {y : Expr} {env : PySem.Env} (ny : noStar y = true) : starEach [y] env = [(false, eval y env)] := by rw [starEach_cons ny]; rfl
theorem reps_of_ints {O : Addr → Prop} {H : Hp} : ∀ ns : List Int, Reps G O H (ns.map V.int) (ns.map D.int)
  | [] => .nil
  | n :: r => .cons (.int n) (reps_of_ints r)
theorem snd_sst {a : Ex} {x : Expr} {p1 p2 q2 pos : Pos} (o : Ok X G M c) (h1 : ("sorted" : Str) ∈ c.bl) (h2 : glb X.env.scope "sorted" = true) (h4 : ("set" : Str) ∈ c.bl) (h5 : glb X.env.scope "set" = true) (ha : Snd X G M c S a x) (n : noStar x = true) (hh : c.hot = false) :
    Snd X G M c S (.sst a) (.Call (.Name "sorted" p1) [.Call (.Name "set" p2) [x] [] q2] [] pos) := by
  refine Snd.of ((pe_sst (o.cm hh) (glb_of h2) (o.bl _ h1) (glb_of h5) (o.bl _ h4) ha.pe (tr1 n)).imp fun σ H Q ⟨E, B, δ, d, j, hf, q⟩ => ?_) (fun _ _ => rfl) (fun _ _ _ z => nomatch z)
  simp only [ev] at hf
  obtain ⟨d1, f1, hf⟩ := Rs.bind_ok hf
  obtain ⟨xs, rfl⟩ : ∃ xs, d1 = .lst xs := by
    cases d1 <;> first | exact ⟨_, rfl⟩ | cases hf
  simp only at hf
  split at hf
  · rename_i ns hi
    split at hf
    · rename_i hl
      cases hf
      refine ⟨E, B, δ, _, j, f1, fun v1 H1 s1 o1 => ?_⟩
      obtain ⟨p, vs, rfl, hp, rr⟩ := (o1.b j.trk).lst
      have e : vs = ns.map V.int := reps_ints rr hi
      subst e
      exact ⟨p, ns, rfl, o.K ▸ hp, hl, fun p' hp' => q _ _ (s1.trans (same_new hp')) (Out.of_retO (.mono s1 (new_lst hp' (reps_of_ints _))))⟩
    · cases hf
  · cases hf
theorem snd_gt1 {a k : Ex} {x y : Expr} {apos pos : Pos} (o : Ok X G M c) (ha : Snd X G M c S a x) (nx : noC x = true) (hk : Snd X G M c S k y) (ny : noStar y = true) (hl : (apos.endLine == pos.line) = true) :
    Snd X G M c S (.gt1 a k) (.Call (.Attribute x "get" apos) [y] [] pos) := by
  refine Snd.of ⟨fun pins s σ H Q I ⟨E, B, δ, r, j, hf, k0⟩ => ?_⟩ (fun _ _ => rfl) (fun _ _ _ z => nomatch z)
  simp only [ev] at hf
  obtain ⟨d1, f1, hf⟩ := Rs.bind_ok hf
  obtain ⟨d2, f2, hf⟩ := Rs.bind_ok hf
  obtain ⟨t, kvs, rfl⟩ : ∃ t kvs, d1 = .dct t kvs := by
    cases d1 <;> first | exact ⟨_, _, rfl⟩ | cases hf
  simp only at hf
  split at hf
  · rename_i hz
    cases hf
    refine wpAny_Call_method (noC_base nx) (by rw [tr1 ny]; rfl) hl PySem.F.plainAttrs_dict PySem.F.slot_dict_get PySem.F.type_dict_get (thn (ha.pe.run pins s σ H (fun v1 H1 => Same H H1 ∧ RepB G (OS S E σ) H1 v1 (.dct t kvs)) I ⟨E, B, δ, _, j, f1, fun v1 H1 s1 o1 => ⟨s1, o1.b j.trk⟩⟩) fun u s1 ⟨v1, H1, I1, rx, h1, q1⟩ => ?_)
    obtain ⟨p, rfl, rfl, ty, nd, hd, _⟩ := d_isDict I1 o.K o.w q1 rx
    refine ⟨ty, nd, ?_⟩
    rw [tr1 ny]
    refine Calls.callWith_builtin rfl (Calls.evalArgs_plain (Calls.spliced_cons (thn (hk.pe.run pins s1 σ H1 (fun v2 H2 => Same H1 H2 ∧ RepB G (OS S E σ) H2 v2 d2) I1 ⟨E, B, δ, _, j.same h1, f2, fun v2 H2 s2 o2 => ⟨s2, o2.b (j.same h1).trk⟩⟩) fun iv s2 ⟨v2, H2, I2, ry, h2, q2⟩ => Calls.spliced_nil ?_)))
    exact d_getD1 o.hu I2 o.K o.w (q1.same h2) q2 hz rx ry fun w' v s' I' rw' r => ⟨v, H2, I', rw', k0 _ _ (h1.trans h2) r⟩
  · cases hf
theorem tr2 {y z : Expr} {env : PySem.Env} (ny : noStar y = true) (nz : noStar z = true) : starEach [y, z] env = [(false, eval y env), (false, eval z env)] := by rw [starEach_cons ny, starEach_cons nz]; rfl
/-- d.get(k, x) -/
theorem snd_gtd {a k d : Ex} {x y z : Expr} {apos pos : Pos} (o : Ok X G M c) (ha : Snd X G M c S a x) (nx : noC x = true) (hk : Snd X G M c S k y) (hd : Snd X G M c S d z) (n : nb c S d = true) (ny : noStar y = true) (nz : noStar z = true) (hl : (apos.endLine == pos.line) = true) :
    Snd X G M c S (.gtd a k d) (.Call (.Attribute x "get" apos) [y, z] [] pos) := by
  refine Snd.of ⟨fun pins s σ H Q I ⟨E, B, δ, r, j, hf, k0⟩ => ?_⟩ (fun _ _ => rfl) (fun _ _ _ z => nomatch z)
  simp only [ev] at hf
  obtain ⟨d1, f1, hf⟩ := Rs.bind_ok hf
  obtain ⟨d2, f2, hf⟩ := Rs.bind_ok hf
  obtain ⟨d3, f3, hf⟩ := Rs.bind_ok hf
  obtain ⟨t, kvs, rfl⟩ : ∃ t kvs, d1 = .dct t kvs := by
    cases d1 <;> first | exact ⟨_, _, rfl⟩ | cases hf
  simp only at hf
  split at hf
  · rename_i hz
    cases hf
    refine wpAny_Call_method (noC_base nx) (by rw [tr2 ny nz]; rfl) hl PySem.F.plainAttrs_dict PySem.F.slot_dict_get PySem.F.type_dict_get (thn (ha.pe.run pins s σ H (fun v1 H1 => Same H H1 ∧ RepB G (OS S E σ) H1 v1 (.dct t kvs)) I ⟨E, B, δ, _, j, f1, fun v1 H1 s1 o1 => ⟨s1, o1.b j.trk⟩⟩) fun u s1 ⟨v1, H1, I1, rx, h1, q1⟩ => ?_)
    obtain ⟨p, rfl, rfl, ty, nd, hd', _⟩ := d_isDict I1 o.K o.w q1 rx
    refine ⟨ty, nd, ?_⟩
    rw [tr2 ny nz]
    refine Calls.callWith_builtin rfl (Calls.evalArgs_plain (Calls.spliced_cons (thn (hk.pe.run pins s1 σ H1 (fun v2 H2 => Same H1 H2 ∧ RepB G (OS S E σ) H2 v2 d2) I1 ⟨E, B, δ, _, j.same h1, f2, fun v2 H2 s2 o2 => ⟨s2, o2.b (j.same h1).trk⟩⟩) fun iv s2 ⟨v2, H2, I2, ry, h2, q2⟩ =>
      Calls.spliced_cons (thn (hd.pe.run pins s2 σ H2 (fun v3 H3 => Same H2 H3 ∧ Rep G (OS S E σ) H3 v3 d3) I2 ⟨E, B, δ, _, j.same (h1.trans h2), f3, fun v3 H3 s3 o3 => ⟨s3, o3.f (j.same (h1.trans h2)).trk (nb_of n)⟩⟩) fun fv s3 ⟨v3, H3, I3, rz, h3, q3⟩ => Calls.spliced_nil ?_))))
    exact d_getD2 o.hu I3 o.K o.w ((q1.same h2).same h3) (q2.same h3) hz rx ry rz q3 fun w' v s' I' rw' r => ⟨v, H3, I', rw', k0 _ _ ((h1.trans h2).trans h3) r⟩
  · cases hf
/-- list(d.values()) -/
theorem snd_dvl {a : Ex} {x : Expr} {p apos p2 pos : Pos} (o : Ok X G M c) (h1 : ("list" : Str) ∈ c.bl) (h2 : glb X.env.scope "list" = true) (ha : Snd X G M c S a x) (nx : noC x = true) (hl : (apos.endLine == p2.line) = true) (hh : c.hot = false) :
    Snd X G M c S (.dvl a) (.Call (.Name "list" p) [.Call (.Attribute x "values" apos) [] [] p2] [] pos) := by
  refine Snd.of ⟨fun pins s σ H Q I ⟨E, B, δ, r, j, hf, k0⟩ => ?_⟩ (fun _ _ => rfl) (fun _ _ _ z => nomatch z)
  simp only [ev] at hf
  obtain ⟨d1, f1, hf⟩ := Rs.bind_ok hf
  obtain ⟨t, kvs, rfl⟩ : ∃ t kvs, d1 = .dct t kvs := by
    cases d1 <;> first | exact ⟨_, _, rfl⟩ | cases hf
  simp only at hf
  split at hf
  · rename_i hz
    cases hf
    refine wpAny_Call_Name_kw (ld_blt I (glb_of h2) (o.bl _ h1) (u := .type "list") (by decide +kernel) ?_ (by decide +kernel) (by decide +kernel))
    rw [tr1 (y := .Call (.Attribute x "values" apos) [] [] p2) rfl]
    refine PySem.callWith_type1 ?_
    refine wpAny_Call_method0_late (noC_base nx) hl (thn (ha.pe.run pins s σ H (fun v1 H1 => Same H H1 ∧ RepB G (OS S E σ) H1 v1 (.dct t kvs)) I ⟨E, B, δ, _, j, f1, fun v1 H1 s1 o1 => ⟨s1, o1.b j.trk⟩⟩) fun u s1 ⟨v1, H1, I1, rx, hs, q1⟩ => ?_)
    obtain ⟨p, rfl, rfl, ty, nd, hd', _⟩ := d_isDict I1 o.K o.w q1 rx
    refine ⟨"dict", "dict.values", PySem.F.plainAttrs_dict, PySem.F.slot_dict_values, PySem.F.type_dict_values, ty, nd, Calls.callWith_builtin rfl (PySem.evalArgs_none ?_)⟩
    exact d_valsD (I.ok.hd (o.cm hh)) I1 o.K o.w q1 rfl hz fun q ws s' hq hr I' => ⟨.ref q, _, I', rfl, k0 _ _ (hs.trans (same_new hq)) (Out.of_retO (.mono hs (new_lst hq hr)))⟩
  · cases hf
theorem reps_strs {O : Addr → Prop} {H : Hp} : ∀ {vs : List V} {ds : List D} {ns : List Str}, Reps G O H vs ds → dStrs ds = some ns → vs = ns.map V.str
  | _, _, _, .nil, e => by cases e; rfl
  | _, d :: ds, ns, .cons h r, e => by
    cases d <;> try (cases e; done)
    simp only [dStrs] at e
    obtain ⟨ms, e1, rfl⟩ := Option.map_eq_some_iff.mp e
    cases h
    rw [List.map_cons, reps_strs r e1]
theorem sIdx_at (z : Str) : ∀ {ys : List Str} {j : Nat}, sIdx z ys = some j → ys[j]? = some z ∧ ∀ m, m < j → ys[m]? ≠ some z
  | [], _, e => by cases e
  | y :: ys, j, e => by
    unfold sIdx at e
    split at e
    · rename_i h
      cases e
      exact ⟨by rw [h]; rfl, fun m hm => absurd hm (Nat.not_lt_zero m)⟩
    · rename_i h
      obtain ⟨i, e1, rfl⟩ := Option.map_eq_some_iff.mp e
      obtain ⟨h1, h2⟩ := sIdx_at z e1
      refine ⟨h1, fun m hm q => ?_⟩
      cases m with
      | zero => exact h (by simpa using q)
      | succ m => exact h2 m (by omega) (by simpa using q)
theorem few' {e : Expr} {env : PySem.Env} {p : Pos} (h : noStar e = true) : ((backTo p (starEach [e] env)).all (fun x => !x.1) && (backToKw p (keywordEach [] env)).all (fun x => x.1.isSome)
      && decide (([e] : List Expr).length + ([] : List Keyword).length + (if ([] : List Keyword).isEmpty then 0 else 1) < 30)) = true := by
  rw [starEach_cons h]; rfl
/-- t.index(x), t a constant tuple of texts -/
theorem snd_tix {a e : Ex} {y : Str} {yp apos pos : Pos} {z : Expr} (o : Ok X G M c) (ha : Snd X G M c S a (.Name y yp)) (he : Snd X G M c S e z) (n : noStar z = true) (hl : (apos.endLine == pos.line) = true) :
    Snd X G M c S (.tix a e) (.Call (.Attribute (.Name y yp) "index" apos) [z] [] pos) := by
  refine Snd.of ((pe_bm PySem.F.plainAttrs_tuple PySem.F.slot_tuple_index PySem.F.type_tuple_index mt_tup_index ha.pe (pa_cons he.pe pa_nil (starEach_cons n)) rfl (few' n) hl (starEach_cons n) rfl).imp fun σ H Q ⟨E, B, δ, d, j, hf, q⟩ => ?_) (fun _ _ => rfl) (fun _ _ _ z => nomatch z)
  simp only [ev] at hf
  obtain ⟨d1, f1, hf⟩ := Rs.bind_ok hf
  obtain ⟨d2, f2, hf⟩ := Rs.bind_ok hf
  obtain ⟨xs, w, rfl, rfl⟩ : ∃ xs w, d1 = .gtp xs ∧ d2 = .str w := by
    cases d1 <;> cases d2 <;> first | exact ⟨_, _, rfl, rfl⟩ | cases hf
  simp only at hf
  split at hf
  · rename_i i hi
    cases hf
    obtain ⟨ys, e1, e2⟩ := Option.bind_eq_some_iff.mp hi
    obtain ⟨h1, h2⟩ := sIdx_at w e2
    refine ⟨E, B, δ, _, j, f1, fun v1 H1 s1 o1 => ?_⟩
    obtain ⟨p, vs, rfl, hp, ho, rr⟩ := (o1.b j.trk).gtp
    have := reps_strs rr e1
    subst this
    refine ⟨.inr (.inl ⟨rfl, o.K ▸ ho⟩), E, B, δ, _, j.same s1, f2, fun v2 H2 s2 o2 => ?_⟩
    exact ⟨p, ys, w, i, rfl, by rw [(o2.b (j.same s1).trk).str], o.K ▸ hp H2, h1, h2, q _ H2 (s1.trans s2) (.of_rep (.int _) rfl)⟩
  · cases hf
theorem idxD_at {d : D} : ∀ {xs : List D} {j : Nat}, idxD d xs = some j → ∃ x, xs[j]? = some x ∧ D.eqv x d = true ∧ ∀ (m : Nat) (y : D), m < j → xs[m]? = some y → D.eqv y d = false
  | x :: xs, j, h => by
    unfold idxD at h
    split at h
    · rename_i e
      cases h
      exact ⟨x, rfl, e, fun m y hm => absurd hm (Nat.not_lt_zero _)⟩
    · rename_i e
      obtain ⟨j', h', rfl⟩ := Option.map_eq_some_iff.mp h
      obtain ⟨y, h1, h2, h3⟩ := idxD_at h'
      refine ⟨y, h1, h2, fun m z hm hz => ?_⟩
      cases m with
      | zero => cases hz; simpa using e
      | succ m => exact h3 m z (by omega) hz
/-- a.index(e), a list -/
theorem snd_lix {a e : Ex} {x z : Expr} {apos pos : Pos} (o : Ok X G M c) (ha : Snd X G M c S a x) (nx : noC x = true) (he : Snd X G M c S e z) (n : noStar z = true) (hl : (apos.endLine == pos.line) = true) :
    Snd X G M c S (.lix a e) (.Call (.Attribute x "index" apos) [z] [] pos) := by
  refine Snd.of ((pe_bm PySem.F.plainAttrs_list PySem.F.slot_list_index PySem.F.type_list_index (mt_indexD o.hu) ha.pe (pa_cons he.pe pa_nil (starEach_cons n)) (noC_base nx) (few' n) hl (starEach_cons n) rfl).imp fun σ H Q ⟨E, B, δ, d, j, hf, q⟩ => ?_) (fun _ _ => rfl) (fun _ _ _ z => nomatch z)
  simp only [ev] at hf
  obtain ⟨d1, f1, hf⟩ := Rs.bind_ok hf
  obtain ⟨d2, f2, hf⟩ := Rs.bind_ok hf
  obtain ⟨xs, rfl⟩ : ∃ xs, d1 = .lst xs := by
    cases d1 <;> first | exact ⟨_, rfl⟩ | cases hf
  simp only at hf
  split at hf
  · rename_i hz
    rw [Bool.and_eq_true] at hz
    split at hf
    · rename_i i hi
      cases hf
      obtain ⟨w, h1, h2, h3⟩ := idxD_at hi
      have all : ∀ (m : Nat) (y : D), xs[m]? = some y → okN 60 y = true := fun m y hy => List.all_eq_true.mp hz.2 y (List.mem_of_getElem? hy)
      have pdm : ∀ (m : Nat), (pds xs)[m]? = xs[m]?.map pd := fun m => by rw [pds_map, List.getElem?_map]
      refine ⟨E, B, δ, _, j, f1, fun v1 H1 s1 o1 => ?_⟩
      have r1 := o1.b j.trk
      obtain ⟨p, vs, rfl, hp, rr⟩ := r1.lst
      have dp := r1.dp (n := 61) hz.2
      rw [pd] at dp
      refine ⟨.inl ⟨rfl, _, o.K ▸ hp⟩, E, B, δ, _, j.same s1, f2, fun v2 H2 s2 o2 => ?_⟩
      have r1' := (r1.same s2).dp (n := 61) hz.2
      rw [pd] at r1'
      refine ⟨p, v2, pd d2, pds xs, i, pd w, rfl, rfl, o.K ▸ r1', o.K ▸ (o2.b (j.same s1).trk).dp hz.1, shaped_lst hz.2, shaped_pd hz.1 (by decide), by rw [pdm, h1]; rfl, by rw [← eqv_pd 60 w d2 (all _ _ h1) hz.1]; exact h2, fun m z' hm hz' => ?_, q _ H2 (s1.trans s2) (.of_rep (.int _) rfl)⟩
      rw [pdm] at hz'
      obtain ⟨y, hy, rfl⟩ := Option.map_eq_some_iff.mp hz'
      rw [← eqv_pd 60 y d2 (all _ _ hy) hz.1]
      exact h3 m y hm hy
    · cases hf
  · cases hf
theorem reps_of_strs {O : Addr → Prop} {H : Hp} : ∀ ys : List Str, Reps G O H (ys.map V.str) (ys.map D.str)
  | [] => .nil
  | y :: r => .cons (.str y) (reps_of_strs r)
/-- a.split(b) -/
theorem snd_spt {a e : Ex} {x z : Expr} {apos pos : Pos} (o : Ok X G M c) (ha : Snd X G M c S a x) (nx : noC x = true) (he : Snd X G M c S e z) (n : noStar z = true) (hl : (apos.endLine == pos.line) = true) :
    Snd X G M c S (.spt a e) (.Call (.Attribute x "split" apos) [z] [] pos) := by
  refine Snd.of ((pe_split ha.pe he.pe (by rw [starEach_cons n]; rfl) (noC_base nx) hl).imp fun σ H Q ⟨E, B, δ, d, j, hf, q⟩ => ?_) (fun _ _ => rfl) (fun _ _ _ z => nomatch z)
  simp only [ev] at hf
  obtain ⟨d1, f1, hf⟩ := Rs.bind_ok hf
  obtain ⟨d2, f2, hf⟩ := Rs.bind_ok hf
  obtain ⟨w, y, rfl, rfl⟩ : ∃ w y, d1 = .str w ∧ d2 = .str y := by
    cases d1 <;> cases d2 <;> first | exact ⟨_, _, rfl, rfl⟩ | cases hf
  simp only at hf
  split at hf
  · rename_i hz
    cases hf
    refine ⟨E, B, δ, _, j, f1, fun v1 H1 s1 o1 => ?_⟩
    have e1 := (o1.b j.trk).str
    refine ⟨⟨w, e1⟩, E, B, δ, _, j.same s1, f2, fun v2 H2 s2 o2 => ?_⟩
    exact ⟨w, y, e1, by rw [(o2.b (j.same s1).trk).str], hz.1, hz.2, fun p hp => q _ _ ((s1.trans s2).trans (same_new hp)) (Out.of_retO (.mono (s1.trans s2) (new_lst hp (reps_of_strs _))))⟩
  · cases hf
/-- a.startswith(b) -/
theorem snd_sw {a e : Ex} {x z : Expr} {apos pos : Pos} (o : Ok X G M c) (ha : Snd X G M c S a x) (nx : noC x = true) (he : Snd X G M c S e z) (n : noStar z = true) (hl : (apos.endLine == pos.line) = true) :
    Snd X G M c S (.sw a e) (.Call (.Attribute x "startswith" apos) [z] [] pos) := by
  refine Snd.of ((pe_m1 PySem.F.slot_str_startswith PySem.F.type_str_startswith mt_startswith ha.pe he.pe (by rw [starEach_cons n]; rfl) (noC_base nx) hl).imp fun σ H Q ⟨E, B, δ, d, j, hf, q⟩ => ?_) (fun _ _ => rfl) (fun _ _ _ z => nomatch z)
  simp only [ev] at hf
  obtain ⟨d1, f1, hf⟩ := Rs.bind_ok hf
  obtain ⟨d2, f2, hf⟩ := Rs.bind_ok hf
  obtain ⟨w, y, rfl, rfl⟩ : ∃ w y, d1 = .str w ∧ d2 = .str y := by
    cases d1 <;> cases d2 <;> first | exact ⟨_, _, rfl, rfl⟩ | cases hf
  cases hf
  refine ⟨E, B, δ, _, j, f1, fun v1 H1 s1 o1 => ?_⟩
  have e1 := (o1.b j.trk).str
  refine ⟨⟨w, e1⟩, E, B, δ, _, j.same s1, f2, fun v2 H2 s2 o2 => ?_⟩
  exact ⟨w, y, e1, by rw [(o2.b (j.same s1).trk).str], q _ H2 (s1.trans s2) (.of_rep (.bl _) rfl)⟩
/-- a.join(xs) -/
theorem snd_jn {a e : Ex} {x z : Expr} {apos pos : Pos} (o : Ok X G M c) (ha : Snd X G M c S a x) (nx : noC x = true) (he : Snd X G M c S e z) (n : noStar z = true) (hl : (apos.endLine == pos.line) = true) :
    Snd X G M c S (.jn a e) (.Call (.Attribute x "join" apos) [z] [] pos) := by
  refine Snd.of ((pe_join ha.pe he.pe (by rw [starEach_cons n]; rfl) (noC_base nx) hl).imp fun σ H Q ⟨E, B, δ, d, j, hf, q⟩ => ?_) (fun _ _ => rfl) (fun _ _ _ z => nomatch z)
  simp only [ev] at hf
  obtain ⟨d1, f1, hf⟩ := Rs.bind_ok hf
  obtain ⟨d2, f2, hf⟩ := Rs.bind_ok hf
  obtain ⟨w, xs, rfl, hd2, hf⟩ : ∃ w xs, d1 = .str w ∧ (d2 = .lst xs ∨ d2 = .tup xs) ∧ jnD w xs = .ok d := by
    cases d1 <;> cases d2 <;> first | exact ⟨_, _, rfl, .inl rfl, hf⟩ | exact ⟨_, _, rfl, .inr rfl, hf⟩ | cases hf
  unfold jnD at hf
  split at hf
  · rename_i ys hy
    split at hf
    · rename_i hz
      cases hf
      refine ⟨E, B, δ, _, j, f1, fun v1 H1 s1 o1 => ?_⟩
      have e1 := (o1.b j.trk).str
      refine ⟨⟨w, e1⟩, E, B, δ, _, j.same s1, f2, fun v2 H2 s2 o2 => ?_⟩
      rcases hd2 with rfl | rfl
      · obtain ⟨p, vs, rfl, hp, rr⟩ := (o2.b (j.same s1).trk).lst
        have := reps_strs rr hy
        subst this
        exact ⟨w, p, ys, e1, rfl, .inl (o.K ▸ hp), hz, q _ H2 (s1.trans s2) (.of_rep (.str _) rfl)⟩
      · obtain ⟨p, vs, rfl, hp, rr⟩ := (o2.b (j.same s1).trk).tup
        have := reps_strs rr hy
        subst this
        exact ⟨w, p, ys, e1, rfl, .inr (o.K ▸ hp), hz, q _ H2 (s1.trans s2) (.of_rep (.str _) rfl)⟩
    · cases hf
  · cases hf
/-- {x} in an f-string -/
theorem snd_fmt {a : Ex} {x : Expr} {pos : Pos} (ha : Snd X G M c S a x) : Snd X G M c S (.fmt a) (.FormattedValue x (-1) none pos) := by
  refine Snd.of ((pe_fmt ha.pe).imp fun σ H Q ⟨E, B, δ, d, j, hf, q⟩ => ?_) (fun _ _ => rfl) (fun _ _ _ z => nomatch z)
  simp only [ev] at hf
  obtain ⟨d1, f1, hf⟩ := Rs.bind_ok hf
  refine ⟨E, B, δ, _, j, f1, fun v1 H1 s1 o1 => ?_⟩
  cases d1 <;> try (cases hf; done)
  · rename_i i
    simp only [fmtD] at hf
    split at hf
    · rename_i hz
      cases hf
      exact .inr ⟨i, (o1.b j.trk).int, hz, q _ H1 s1 (.of_rep (.str _) rfl)⟩
    · cases hf
  · rename_i y
    simp only [fmtD] at hf
    split at hf
    · rename_i hz
      cases hf
      exact .inl ⟨y, (o1.b j.trk).str, hz, q _ H1 s1 (.of_rep (.str _) rfl)⟩
    · cases hf
/-! ### classes -/
theorem snd_mk {k : Nat} {x : Str} {p pos : Pos} (o : Ok X G M c) (h1 : c.cs[k]? = some x) (hg : glb X.env.scope x = true) (hp : plainN x = true) : Snd X G M c S (.mk k) (.Call (.Name x p) [] [] pos) := by
  obtain ⟨h2, h3⟩ := o.cs k x h1
  refine Snd.of ((pe_mk0 h3 (glb_of hg) h2 (plainN_of hp).1).imp fun σ H Q ⟨E, B, δ, d, j, hf, q⟩ x dx hx hd hne => ?_) (fun _ _ => rfl) (fun _ _ _ z => nomatch z)
  cases hf
  have s1 : Same H (upd (upd H dx (.own x)) x (.ins (G.cl k) dx [])) := (same_new hd).trans (same_new (by rw [upd_ne (Ne.symm hne)]; exact hx))
  exact q _ _ s1 (Out.of_rep (.ins upd_same (j.trk.no hx)) rfl)
theorem tbl_mem {α : Type} : ∀ {tb : List (Nat × α)} {i : Nat} {v : α}, tbl tb i = some v → (i, v) ∈ tb
  | (k, w) :: r, i, v, h => by
    unfold tbl at h
    split at h
    · rename_i e
      cases h; subst e
      exact List.mem_cons_self
    · exact List.mem_cons_of_mem _ (tbl_mem h)
theorem snd_mth {a : Ex} {tb : List (Nat × Nat)} {m : Str} {es : Exs} {y : Str} {yp apos pos : Pos} {xs : List Expr} (o : Ok X G M c) (ha : Snd X G M c S a (.Name y yp)) (h : PA X xs (rA G S (nbs c S es) (evs M es))) (n : xs.all noStar = true) (hn : nbs c S es = true) (hnil : xs = [] → es = .nil) (h30 : xs.length < 30) (hl : (apos.endLine == pos.line) = true)
    (ht : ∀ p ∈ tb, (p.1, m, p.2) ∈ c.ms) (hh : c.hot = false) : Snd X G M c S (.mth a tb m es) (.Call (.Attribute (.Name y yp) m apos) xs [] pos) := by
  have me := meth_eq (y := y) (m := m) (yp := yp) (apos := apos) (pos := pos) (xs := xs) (env := X.env) (by
    unfold methodCallForm
    rw [Bool.and_eq_true, Bool.and_eq_true, decide_eq_true_eq]
    refine ⟨⟨?_, rfl⟩, (show xs.length + 0 + (if true = true then 0 else 1) < 30 by simpa using h30)⟩
    have := starEach_none (env := X.env) (pos := pos) n
    rw [List.any_eq_false] at this
    rw [List.all_eq_true]
    intro x hx
    have := this x hx
    simpa using this) hl
  refine Snd.of ⟨fun pins s σ H Q I ⟨E, B, δ, d, j, hf, q⟩ => ?_⟩ (fun _ _ => rfl) (fun _ _ _ z => nomatch z)
  simp only [ev] at hf
  obtain ⟨d1, f1, hf⟩ := Rs.bind_ok hf
  obtain ⟨ds, f2, hf⟩ := Rs.bind_ok hf
  obtain ⟨k, rfl⟩ : ∃ k, d1 = .ins k := by
    cases d1 <;> first | exact ⟨_, rfl⟩ | cases hf
  simp only at hf
  split at hf
  · rename_i f hf0
    obtain ⟨r, fa, fd, ps, sp, dvs, dsv, kk, CX, c1, c2, c3, c4, c5, c6, c7, c8⟩ := o.ms k m f (ht _ (tbl_mem hf0)) hh
    have fin : ∀ v1 H1 vs H2, Same H H1 → RepB G (OS S E σ) H1 v1 (.ins k) → Same H1 H2 → Reps G (OS S E σ) H2 vs ds → sp (v1 :: (vs ++ dvs)) H2 Q E0 := fun v1 H1 vs H2 s1 r1 s2 r2 =>
      c8 (v1 :: vs) H2 Q E0 (.ok (j.trk.same (s1.trans s2)) (.cons ((r1.rep rfl).same s2) r2) hf fun v H' s r => q v H' ((s1.trans s2).trans s) (r.rep (j.trk.same (s1.trans s2))))
    have he := ha.pe.run pins s σ H (fun v1 H1 => Same H H1 ∧ RepB G (OS S E σ) H1 v1 (.ins k)) I ⟨E, B, δ, _, j, f1, fun v1 H1 s1 o1 => ⟨s1, o1.b j.trk⟩⟩
    cases xs with
    | nil =>
      refine PySem.W.methodCall_KW (thn he fun u s1 ⟨v1, H1, I1, rx, h1, q1⟩ => ?_) me
      obtain ⟨w1, dx, rfl, e0⟩ : ∃ a dx, v1 = .ref a ∧ H1 a = some (.ins (G.cl k) dx []) := by
        have r1 := q1.rep rfl
        cases r1 with
        | ins e _ => exact ⟨_, _, rfl, e⟩
      obtain rfl : u = Value.ref w1 := rx
      refine getmeth_ok I1 e0 c1 c2 rfl ?_
      have e1 := hnil rfl
      subst e1
      cases f2
      exact PySem.W.callWith_K0 (first := [.ref w1]) I1.kIn c2.kp (run_fn (us := [.ref w1]) (vs := [.ref w1]) c3 c4 c5 c6 (c7 X rfl rfl) I1 (.cons rfl .nil) (fin _ H1 [] H1 h1 q1 (Same.refl _) .nil))
    | cons x0 xs =>
      rw [List.all_cons, Bool.and_eq_true] at n
      refine PySem.W.methodCall_KW (thn he fun u s1 ⟨v1, H1, I1, rx, h1, q1⟩ => ?_) me
      obtain ⟨w1, dx, rfl, e0⟩ : ∃ a dx, v1 = .ref a ∧ H1 a = some (.ins (G.cl k) dx []) := by
        have r1 := q1.rep rfl
        cases r1 with
        | ins e _ => exact ⟨_, _, rfl, e⟩
      obtain rfl : u = Value.ref w1 := rx
      refine getmeth_ok I1 e0 c1 c2 rfl ?_
      refine PySem.W.callWith_K (first := [.ref w1]) (h₀ := X.base) I1.ok.mod.kin c2.kp (thn (h.run pos pins s1 σ H1 (fun vs H2 => Same H1 H2 ∧ Reps G (OS S E σ) H2 vs ds) I1 ⟨E, B, δ, ds, j.same h1, f2, fun vs H2 s2 _ r2 => ⟨s2, r2 hn⟩⟩) fun us s2 ⟨vs, H2, I2, r, h2, q2⟩ => ⟨I2.kIn, ?_⟩) (starEach_cons n.1) (starEach_none n.2)
      exact run_fn (us := .ref w1 :: us) (vs := .ref w1 :: vs) c3 c4 c5 c6 (c7 X rfl rfl) I2 (.cons rfl r) (fin _ H1 vs H2 h1 q1 h2 q2)
  · cases hf
theorem snd_isc {a : Ex} {k : Nat} {tb : List (Nat × Bool)} {y : Expr} {z : Str} {p p' pos : Pos} (o : Ok X G M c) (h1 : ("isinstance" : Str) ∈ c.bl) (h2 : glb X.env.scope "isinstance" = true) (h3 : c.cs[k]? = some z) (h4 : glb X.env.scope z = true) (h5 : plainN z = true) (ha : Snd X G M c S a y) (n : noStar y = true)
    (ht : ∀ p ∈ tb, (p.1, k, p.2) ∈ c.ia) : Snd X G M c S (.isc a k tb) (.Call (.Name "isinstance" p) [y, .Name z p'] [] pos) := by
  obtain ⟨m1, m2⟩ := o.cs k z h3
  have ht' : PE X (.Name z p') (tC (.ref (G.cl k))) := pe_glob (glb_of h4) m1 rfl (plainN_of h5).1
  have hA := pa_cons ha.pe (pa_cons ht' pa_nil (starEach_cons rfl)) (starEach_cons n)
  refine Snd.of ((pe_callB call_isi (glb_of h2) (o.bl _ h1) (by decide +kernel) hA (by decide +kernel) (by decide +kernel) (starEach_cons n) (starEach_none rfl)).imp fun σ H Q ⟨E, B, δ, d, j, hf, q⟩ => ?_) (fun _ _ => rfl) (fun _ _ _ z => nomatch z)
  simp only [ev] at hf
  obtain ⟨d1, f1, hf⟩ := Rs.bind_ok hf
  refine ⟨E, B, δ, d1, j, f1, fun v1 H1 s1 o1 => ?_⟩
  obtain ⟨i, rfl⟩ : ∃ i, d1 = .ins i := by
    cases d1 <;> first | exact ⟨_, rfl⟩ | cases hf
  simp only at hf
  split at hf
  · rename_i b hb
    cases hf
    have r1 := (o1.b j.trk).rep rfl
    obtain ⟨m0, hk0⟩ := o.ia _ _ _ (ht _ (tbl_mem hb))
    cases r1 with
    | ins e _ => exact ⟨_, .ref (G.cl k), _, .ref (G.cl k), b, rfl, .own _, .base (.ins e m0.cl m0.ca m0.cn m0.ct m0.cm), hk0, q _ H1 s1 (.of_rep (.bl _) rfl)⟩
  · cases hf
theorem boot_len : bootBuiltins "len" = some (.builtin "len") := by decide +kernel
theorem Bi.boot (b : Bi) : bootBuiltins b.name = some b.val := by cases b <;> decide +kernel
theorem Bi.nn (b : Bi) : b.name ≠ "__name__" ∧ (b.name == ("__debug__" : Str)) = false := by cases b <;> exact ⟨by decide +kernel, by decide +kernel⟩
theorem snd_bi {b : Bi} {es : Exs} {x0 : Expr} {xs : List Expr} {p pos : Pos} (o : Ok X G M c) (hin : b.name ∈ c.bl) (hg : glb X.env.scope b.name = true) (h : PA X (x0 :: xs) (rA G S (nbs c S es) (evs M es))) (n0 : noStar x0 = true) (n : xs.all noStar = true) (hh : c.hot = false ∨ b.cool = true) :
    Snd X G M c S (.bi b es) (.Call (.Name b.name p) (x0 :: xs) [] pos) := by
  have go : ∀ σ H Q, rE G S .new (ev M (.bi b es)) σ H Q → tCB (rBi G b) (rA G S (nbs c S es) (evs M es)) σ H Q := fun σ H Q ⟨E, B, δ, d, j, hf, k⟩ => by
    simp only [ev] at hf
    obtain ⟨ds, f1, hf⟩ := Rs.bind_ok hf
    refine ⟨E, B, δ, ds, j, f1, fun vs H1 s1 r _ => ?_⟩
    exact ⟨OS S E σ, ds, d, j.trk.same s1, r, hf, fun v H' s q => k v H' (s1.trans s) (Out.of_retO (.mono s1 q))⟩
  have hm := o.bl _ hin
  have hcool : b.cool = true ∨ X.calm = true := hh.symm.imp id o.cm
  have hB := fun (id : String) (e : b.val = .builtin id) => pe_callB (X := X) (p := p) (pos := pos) (e ▸ bi_all b o.K o.w hcool) (glb_of hg) hm (e ▸ b.boot) h b.nn.1 b.nn.2 (starEach_cons n0) (starEach_none n)
  have hT := fun (id : String) (e : b.val = .type id) => pe_callTy (X := X) (p := p) (pos := pos) (e ▸ bi_all b o.K o.w hcool) (glb_of hg) hm (e ▸ b.boot) h b.nn.1 b.nn.2 (starEach_cons n0) (starEach_none n)
  refine Snd.of ?_ (fun _ _ => rfl) (fun _ _ _ z => nomatch z)
  cases e : b.val with
  | builtin id => exact (hB id e).imp go
  | type id => exact (hT id e).imp go
  | _ => cases b <;> cases e
theorem Ty.boot (t : Ty) : bootBuiltins t.name = some (.type t.py) ∧ t.name ≠ "__name__" ∧ (t.name == ("__debug__" : Str)) = false := by cases t <;> exact ⟨by decide +kernel, by decide +kernel, by decide +kernel⟩
theorem snd_isi {a : Ex} {t : Ty} {y : Expr} {p p' pos : Pos} (o : Ok X G M c) (h1 : ("isinstance" : Str) ∈ c.bl) (h2 : glb X.env.scope "isinstance" = true) (h3 : t.name ∈ c.bl) (h4 : glb X.env.scope t.name = true) (ha : Snd X G M c S a y) (n : noStar y = true) :
    Snd X G M c S (.isi a t) (.Call (.Name "isinstance" p) [y, .Name t.name p'] [] pos) := by
  have ht : PE X (.Name t.name p') (tC (.ty t.py)) := pe_bltn (glb_of h4) (o.bl _ h3) t.boot.1 rfl t.boot.2.1 t.boot.2.2
  have hA := pa_cons ha.pe (pa_cons ht pa_nil (starEach_cons rfl)) (starEach_cons n)
  refine Snd.of ((pe_callB call_isi (glb_of h2) (o.bl _ h1) (by decide +kernel) hA (by decide +kernel) (by decide +kernel) (starEach_cons n) (starEach_none rfl)).imp fun σ H Q ⟨E, B, δ, d, j, hf, k⟩ => ?_) (fun _ _ => rfl) (fun _ _ _ z => nomatch z)
  simp only [ev] at hf
  obtain ⟨d1, f1, hf⟩ := Rs.bind_ok hf
  obtain ⟨b, f2, hf⟩ := Rs.bind_ok hf
  cases hf
  refine ⟨E, B, δ, d1, j, f1, fun v1 H1 s1 o1 => ?_⟩
  obtain ⟨u, hu, hk⟩ := tyx (o1.b j.trk) f2
  exact ⟨v1, .ty t.py, u, .type t.py, b, rfl, .ty _, o.K ▸ hu, o.K ▸ hk, k _ H1 s1 (.of_rep (.bl _) rfl)⟩
theorem snd_nil : PA X [] (rA G S (nbs c S .nil) (evs M .nil)) := pa_nil.imp fun σ H Q ⟨E, B, δ, ds, j, hf, k⟩ => by
  cases hf
  exact k [] H (Same.refl H) trivial fun _ => .nil
theorem snd_cons {e : Ex} {es : Exs} {x : Expr} {xs : List Expr} (he : Snd X G M c S e x) (hs : PA X xs (rA G S (nbs c S es) (evs M es))) (n : noStar x = true) : PA X (x :: xs) (rA G S (nbs c S (.cons e es)) (evs M (.cons e es))) :=
  (pa_cons he.pe hs (starEach_cons n)).imp fun σ H Q ⟨E, B, δ, ds, j, hf, k⟩ => by
    simp only [evs] at hf
    obtain ⟨d1, f1, hf⟩ := Rs.bind_ok hf
    obtain ⟨d2, f2, hf⟩ := Rs.bind_ok hf
    cases hf
    refine ⟨E, B, δ, d1, j, f1, fun v1 H1 s1 o1 => ⟨E, B, δ, d2, j.same s1, f2, fun vs H2 s2 o2 r2 => ?_⟩⟩
    refine k _ H2 (s1.trans s2) ⟨(o1.b j.trk).same s2, o2⟩ fun q => ?_
    rw [nbs, Bool.and_eq_true] at q
    exact .cons ((o1.f j.trk (nb_of q.1)).same s2) (r2 q.2)
theorem RepBs.cut {O : Addr → Prop} {H : Hp} : ∀ {vs : List V} {ds : List D}, RepBs G O H vs ds → ∃ O', (∀ a, O' a → O a) ∧ Reps G O' H vs ds
  | [], [], _ => ⟨O, fun _ h => h, .nil⟩
  | v :: vs, d :: ds, h => by
    obtain ⟨O', h1, h2⟩ := RepBs.cut h.2
    rcases h.1 with h3 | ⟨p, F, rfl, f, h3⟩
    · exact ⟨O', h1, .cons (h3.less h1) h2⟩
    · exact ⟨fun a => O' a ∧ ¬ F a, fun a o => h1 a o.1, .cons ((h3.less fun a o => h1 a o.1).rep fun a f o => o.2 f) (h2.ext (less_ext fun a o => o.1))⟩
  | [], _ :: _, h => h.elim
  | _ :: _, [], h => h.elim
theorem snd_cal {fl : Fk} {f : Nat} {es : Exs} {x : Str} {xs : List Expr} {p pos : Pos} {r : Bool} (o : Ok X G M c) (hf : c.fn[f]? = some (x, r)) (hG : isG x = true) (hfl : (match fl with | .any => nbs c S es | .flat => true | .flat1 => r) = true) (hg : glb X.env.scope x = true) (hp : plainN x = true)
    (h : PA X xs (rA G S (nbs c S es) (evs M es))) (n : xs.all noStar = true) (hnil : xs = [] → es = .nil) (hh : c.hot = false ∨ (f ∈ c.hfn ∧ xs ≠ [])) : Snd X G M c S (.cal fl f es) (.Call (.Name x p) xs [] pos) := by
  have hmd : md c S (.cal fl f es) = if r = true then .new else .frz := by
    rw [md, hf]
    cases r <;> rfl
  have go : ∀ σ H Q, rE G S (md c S (.cal fl f es)) (ev M (.cal fl f es)) σ H Q → rA G S (nbs c S es) (evs M es) σ H fun vs H1 => ∃ E B δ O ds d, J G S E B σ H1 δ ∧ Trk O H1 ∧ (∀ a, O a → OS S E σ a) ∧ Reps G O H1 vs ds ∧ M.F f ds = .ok d ∧ ∀ v H', Same H1 H' → RetO r G O H1 H' v d → Q v H' := fun σ H Q ⟨E, B, δ, d, j, he, q⟩ => by
    simp only [ev] at he
    obtain ⟨ds, f1, he⟩ := Rs.bind_ok he
    obtain ⟨d', f2, he⟩ := Rs.bind_ok he
    split at he
    · rename_i hk
      cases he
      refine ⟨E, B, δ, ds, j, f1, fun vs H1 s1 rb rz => ?_⟩
      have t1 := j.trk.same s1
      have fin : ∀ v H', Same H1 H' → RetO r G (OS S E σ) H1 H' v d → Q v H' := fun v H' s q' => q v H' (s1.trans s) (by
        rw [hmd]
        cases r with
        | true => exact Out.of_retO (.mono s1 q')
        | false => exact q')
      cases fl with
      | any => exact ⟨E, B, δ, _, ds, d, j.same s1, t1, fun _ z => z, rz hfl, f2, fin⟩
      | flat =>
        obtain ⟨O', c1, c2⟩ := rb.cut
        exact ⟨E, B, δ, O', ds, d, j.same s1, fun a o => t1 a (c1 a o), c1, c2, f2, fun v H' s q' => fin v H' s (q'.up (t1.same s) hk)⟩
      | flat1 =>
        have hr : r = true := hfl
        subst hr
        obtain ⟨O', c1, c2⟩ := rb.cut
        exact ⟨E, B, δ, O', ds, d, j.same s1, fun a o => t1 a (c1 a o), c1, c2, f2, fun v H' s q' => fin v H' s (RetO.up1 q' (t1.same s) hk)⟩
    · cases he
  refine Snd.of ?_ (fun _ _ => rfl) (fun _ _ _ z => nomatch z)
  cases hb : c.hot with
  | false =>
    obtain ⟨a, fd, ps, sp, dvs, dsv, k, CX, h1, h2, h3, h4, h5, h6, _, h7, h8⟩ := o.fn f x r hf hG hb
    cases xs with
    | nil =>
      refine (pe_call0 (x := x) (p := p) (pos := pos) h3 h4 (glb_of hg) h1 h2 h5 h6 (h7 X rfl rfl) (plainN_of hp).1).imp fun σ H Q w => ?_
      obtain ⟨E, B, δ, ds, j, f1, k⟩ := go σ H Q w
      have := hnil rfl
      subst this
      cases f1
      obtain ⟨_, _, _, O, ds, d, _, z1, _, z2, z3, z4⟩ := k [] H (Same.refl H) trivial fun _ => .nil
      exact h8 [] H Q E0 (.ok z1 z2 z3 z4)
    | cons x0 xs =>
      rw [List.all_cons, Bool.and_eq_true] at n
      refine (pe_call (x := x) (p := p) (pos := pos) h3 h4 (glb_of hg) h1 h2 h5 h6 (h7 X rfl rfl) h (plainN_of hp).1 (starEach_cons n.1) (starEach_none n.2)).imp fun σ H Q w => ?_
      obtain ⟨E, B, δ, ds, j, f1, k⟩ := go σ H Q w
      refine ⟨E, B, δ, ds, j, f1, fun vs H1 s1 rb rz => ?_⟩
      obtain ⟨_, _, _, O, ds, d, _, z1, _, z2, z3, z4⟩ := k vs H1 s1 rb rz
      exact h8 vs H1 Q E0 (.ok z1 z2 z3 z4)
  | true =>
    obtain ⟨hfn, hne⟩ := hh.resolve_left (by rw [hb]; exact fun z => nomatch z)
    obtain ⟨a, fd, ps, sp, k, CX, h1, h2, h3, h4, h5, h7, h8⟩ := o.fh f x r hf hG hfn
    cases xs with
    | nil => exact absurd rfl hne
    | cons x0 xs =>
      rw [List.all_cons, Bool.and_eq_true] at n
      rcases o.wm with ⟨_, _, hc⟩ | ⟨hx, e1, e2, _⟩
      · rw [hb] at hc; cases hc
      refine (pe_callT (q := p) (pos := pos) h3 h4 e2 (glb_of hg) h1 h2 h5 (h7 X rfl rfl) h (plainN_of hp).1 (starEach_cons n.1) (starEach_none n.2)).imp fun σ H Q w => ?_
      obtain ⟨E, B, δ, ds, j, f1, k⟩ := go σ H Q w
      refine ⟨E, B, δ, ds, j, f1, fun vs H1 s1 rb rz => ?_⟩
      obtain ⟨_, _, _, O, ds, d, jz, z1, z0, z2, z3, z4⟩ := k vs H1 s1 rb rz
      obtain ⟨hxo, hno⟩ := jz.ht hx e1
      exact ⟨hxo, h8 hx vs H1 Q ⟨O, ds, d, z1, fun z => hno (z0 _ z), z2, z3, z4⟩⟩
/-! ### {k: v}, k a tuple; sorted(d); a list in an own list -/
theorem snd_srtD {a : Ex} {x : Expr} {p pos : Pos} (o : Ok X G M c) (h1 : ("sorted" : Str) ∈ c.bl) (h2 : glb X.env.scope "sorted" = true) (ha : Snd X G M c S a x) (n : noStar x = true) (hh : c.hot = false) :
    Snd X G M c S (.srtD a) (.Call (.Name "sorted" p) [x] [] pos) := by
  refine Snd.of ⟨fun pins s σ H Q I ⟨E, B, δ, r, j, hf, k0⟩ => ?_⟩ (fun _ _ => rfl) (fun _ _ _ z => nomatch z)
  simp only [ev] at hf
  obtain ⟨d1, f1, hf⟩ := Rs.bind_ok hf
  obtain ⟨kvs, rfl⟩ : ∃ kvs, d1 = .dct true kvs := by
    cases d1 <;> try (cases hf; done)
    rename_i t kvs
    cases t
    · cases hf
    · exact ⟨_, rfl⟩
  simp only at hf
  split at hf
  · rename_i hz
    simp only [srtD] at hf
    split at hf
    · rename_i ps hps
      cases hf
      refine wpAny_Call_Name_kw (ld_blt I (glb_of h2) (o.bl _ h1) (u := .builtin "sorted") (by decide +kernel) ?_ (by decide +kernel) (by decide +kernel))
      rw [tr1 n]
      refine Calls.callWith_builtin rfl (Calls.evalArgs_plain (Calls.spliced_cons (thn (ha.pe.run pins s σ H (fun v2 H2 => Same H H2 ∧ RepB G (OS S E σ) H2 v2 (.dct true kvs)) I ⟨E, B, δ, _, j, f1, fun v2 H2 s2 o2 => ⟨s2, o2.b j.trk⟩⟩) fun iv s2 ⟨v2, H2, I2, ry, h2, q2⟩ => Calls.spliced_nil ?_)))
      obtain ⟨p, xs, rfl, hp, rr⟩ := q2.dctN
      obtain rfl : iv = Value.ref p := ry
      exact n_sorted (I.ok.hd (o.cm hh)) I2 o.K o.w hp rr hps fun q ws s' hq hr I' => ⟨.ref q, _, I', rfl, k0 _ _ (h2.trans (same_new hq)) (Out.of_retO (.mono h2 (new_lst hq hr)))⟩
    · cases hf
  · cases hf
theorem snd_nix {a k : Ex} {x y : Expr} {pos : Pos} (o : Ok X G M c) (ha : Snd X G M c S a x) (hk : Snd X G M c S k y) (ns : noSlice y = true) : Snd X G M c S (.nix a k) (.Subscript x y pos) := by
  refine Snd.of ((pe_ix (ix_list (X := X)) ha.pe hk.pe (plainIx ns)).imp fun σ H Q ⟨E, B, δ, d, j, hf, q⟩ => ?_) (fun _ _ => rfl) (fun _ _ _ z => nomatch z)
  simp only [ev] at hf
  obtain ⟨d1, f1, hf⟩ := Rs.bind_ok hf
  obtain ⟨d2, f2, hf⟩ := Rs.bind_ok hf
  obtain ⟨ds, m, rfl, rfl⟩ : ∃ ds m, d1 = .nst ds ∧ d2 = .int m := by
    cases d1 <;> cases d2 <;> first | exact ⟨_, _, rfl, rfl⟩ | cases hf
  simp only at hf
  split at hf
  · rename_i e he
    cases hf
    refine ⟨E, B, δ, _, j, f1, fun v1 H1 s1 o1 => ⟨E, B, δ, _, j.same s1, f2, fun v2 H2 s2 o2 => ?_⟩⟩
    obtain ⟨p, xs, rfl, hp, hl, hr⟩ := ((o1.b j.trk).same s2).nst
    obtain ⟨i, hi, e1⟩ : ∃ i, ixN ds.length m = some i ∧ ds[i]? = some d := by
      unfold atI at he
      cases q : ixN ds.length m with
      | none => rw [q] at he; cases he
      | some i => rw [q] at he; exact ⟨i, rfl, he⟩
    have hi2 : i < xs.length := by
      have := (List.getElem?_eq_some_iff.mp e1).1
      omega
    have e2 : xs[i]? = some xs[i] := List.getElem?_eq_getElem hi2
    refine ⟨p, xs, m, xs[i], rfl, o2.int (j.same s1).trk, o.K ▸ hp, ?_, q _ _ (s1.trans s2) (hr i _ d e2 e1)⟩
    unfold atI
    rw [hl, hi]
    exact e2
  · cases hf
/-- {k: v}, k a tuple -/
theorem snd_dspT {a b : Ex} {x y : Expr} {pos : Pos} (o : Ok X G M c) (ha : Snd X G M c S a x) (hb : Snd X G M c S b y) (na : nb c S a = true) (nb' : nb c S b = true) : Snd X G M c S (.dspT a b) (.Dict [some x] [y] pos) := by
  refine Snd.of ⟨fun pins s σ H Q I ⟨E, B, δ, d, j, hf, q⟩ => ?_⟩ (fun _ _ => rfl) (fun _ _ _ z => nomatch z)
  simp only [ev] at hf
  obtain ⟨d1, f1, hf⟩ := Rs.bind_ok hf
  obtain ⟨d2, f2, hf⟩ := Rs.bind_ok hf
  split at hf
  · rename_i hz
    cases hf
    have hq : H s.heap.objs.size = none := I.hok.fresh (Nat.le_refl _)
    have I0 : Inv X pins σ (upd H s.heap.objs.size (DNo X.w s.heap.objs.size [])) { s with heap := s.heap.push { cls := .type "dict", data := .dict #[] } } :=
      I.laid (a := s.heap.objs.size) (t' := s.toks) (fun _ _ q => Heap.get?_push_of_some _ q) (Nat.le_refl _)
        (dn_new (P := X.prog) (Nat.zero_le _) (beq_eq_false_iff_ne.mpr (Ne.symm (Nat.ne_of_lt I.big))) (Heap.DictOfH.new (knd := nestedKind X.prog X.w) s.heap))
    generalize hp : s.heap.objs.size = p at *
    have j1 : J G S { E with own := fun a => E.own a ∨ a = p } B σ (upd H p (DNo X.w p [])) δ := j.moreE (fun a o => o.elim .inl fun e => .inr (e ▸ hq)) (fun a o => .inl o) (same_new hq) (fun a o => by
      rcases o with o | rfl
      · obtain ⟨u, e, m⟩ := j.ex a o
        exact ⟨u, (same_new hq) a u e, m⟩
      · exact ⟨_, upd_same, rfl⟩)
    have sub : ∀ {Q' : Addr → Shared → Prop}, (∀ v1 b H2 s', Same (upd H p (DNo X.w p [])) H2 → isKT d1 = true → Rep G (OS S { E with own := fun a => E.own a ∨ a = p } σ) H2 (.ref b) d1 → Rep G (OS S { E with own := fun a => E.own a ∨ a = p } σ) H2 v1 d2 → ∀ r, RelV v1 r →
        Inv X pins σ (upd H2 p (DNo X.w p [(nk d1, b, r)])) s' → Q' p s') → wpAny (model X.prog X.w) X.A (subDict [(eval x X.env, do let v ← eval y X.env; standAt pos; pure v)]) Q' X.xe s := by
      intro Q' hQ
      refine wpAny_subDictH (knd := nestedKind X.prog X.w) (show X.A.units + 8 < cLine from by have := o.hu; omega) (by simp) ?_
      rw [hp]
      refine evalPairs_cons (thn (ha.pe.run pins _ σ _ (fun v1 H1 => Same (upd H p (DNo X.w p [])) H1 ∧ Rep G (OS S { E with own := fun a => E.own a ∨ a = p } σ) H1 v1 d1) I0 ⟨_, B, δ, d1, j1, f1, fun v1 H1 s1 o1 => ⟨s1, o1.f j1.trk (nb_of na)⟩⟩) fun u s1 ⟨v1, H1, I1, rx, h1, q1⟩ => ?_)
      refine wpAny_bind (thn (hb.pe.run pins s1 σ H1 (fun v2 H2 => Same H1 H2 ∧ Rep G (OS S { E with own := fun a => E.own a ∨ a = p } σ) H2 v2 d2) I1 ⟨_, B, δ, d2, j1.same h1, f2, fun v2 H2 s2 o2 => ⟨s2, o2.f (j1.same h1).trk (nb_of nb')⟩⟩) fun u2 s2 ⟨v2, H2, I2, ry, h2, q2⟩ => ?_)
      refine wpAny_bind (wpAny_standAt (wpAny_pure (evalPairs_nil ?_)))
      obtain ⟨b, rfl, rk⟩ := isKT_ref hz (.inl (q1.same h2))
      obtain rfl : u = Value.ref b := rx
      have e2 : H2 p = some (DNo X.w p []) := h2 _ _ (h1 _ _ upd_same)
      obtain ⟨dd, hd, z⟩ := dn_of (G := G) I2 o.K o.w (ds := []) (xs := []) (O := fun _ => False) (by rw [o.w]; exact e2) .nil
      refine ⟨[(nk d1, b, u2)], ⟨rfl, rfl, key_is I2 o.K rk hz, trivial⟩, dd, fun h' tk dd' hs => ?_⟩
      refine hQ v2 b H2 _ (h1.trans h2) hz rk q2 u2 ry ?_
      have he : ∃ q, h'.get? p = some q := let ⟨q, _, _, hq, _⟩ := dd'; ⟨q, hq⟩
      exact d_write I2 (by rw [e2]; exact True.intro) hs he (dn_new (by simp [sizeLine_eq]) hd dd')
    rw [arm_eval_Dict, show (evalEachOpt [some x] X.env).zip ((evalEach [y] X.env).map fun v => do let x ← v; standAt pos; pure x) = ([(eval x X.env, do let v ← eval y X.env; standAt pos; pure v)] : List (Sem Value × Sem Value)).map fun p => (some p.1, p.2) from rfl,
      dictDisplay_pairs _ (by simp) (by simp)]
    refine wpAny_bind (wpAny_standAt (wpAny_bind (sub fun v1 b H2 s' hs hk rk rv r rr I' => wpAny_pure ⟨.ref p, _, I', rfl, q _ _ ?_ (Out.of_retO (new_own hq (.mkT (xs := [(nk d1, b, r)]) (by rw [o.w]; exact upd_same) rfl (trk_one upd_same rfl) ?_)))⟩)))
    · intro a u e
      have hne : a ≠ p := fun z => by rw [z, hq] at e; cases e
      rw [upd_ne hne]
      exact hs a u ((same_new hq) a u e)
    · have x1 : Ext (OS S { E with own := fun a => E.own a ∨ a = p } σ) H2 (fun a => OS S E σ a ∨ a = p) (upd H2 p (DNo X.w p [(nk d1, b, r)])) := fun a u e nO => by
        have hne : a ≠ p := fun z => nO (.inl (.inr z))
        refine ⟨by rw [upd_ne hne]; exact e, fun o => ?_⟩
        rcases o with (o | o) | o
        · exact nO (.inl (.inl o))
        · exact nO (.inr o)
        · exact hne o
      exact .cons rfl hk (rk.ext x1) rr (rv.ext x1) .nil
  · cases hf
end
end PV
set_option maxHeartbeats 2000000
namespace PV
open PySem PySem.Spec PyProof.Rows L2

/-! ### exceptions as values: fields, isinstance -/
section
variable {X : Cx} {pins : List (Addr × Obj)} {σ : L2.St} {H : Hp} {s : Shared}
theorem inst_x {C a dx : Addr} {fs : List (Str × V)} (I : Inv X pins σ H s) (e : H a = some (xO C a dx)) (ed : H dx = some (.xd fs)) :
    ∃ (o od : Obj) (mA : Str → Option Value), PySem.W.InstAt s.heap a o C (some od) ∧ (∀ f, RelO (fs.lookup f) (mA f)) ∧ ∀ name, PySem.W.lookIn name od = some (mA name) := by
  obtain ⟨o, vs, h1, h2, h3, h4, _⟩ := xO_at I.hok e
  have x : ObjOk X.prog X.w H s.heap dx (.xd fs) := I.hok dx _ ed
  obtain ⟨mA, hns, hr⟩ := x
  obtain ⟨od, ho, hl⟩ := lookIn_ns hns
  exact ⟨o, od, mA, ⟨h1, h2, by unfold PySem.W.notCls; rw [h4] <;> rfl, by rw [h3]; exact ho⟩, hr, hl⟩
/-- isinstance(e, T), e a caught exception -/
theorem call_isiX : CallR X (.builtin "isinstance") (fun xs H Q => ∃ (a C dx : Addr) (fs : List (Str × V)) (c : V) (u : Value) (b : Bool), xs = [.ref a, c] ∧ ClsV c u ∧ H a = some (xO C a dx) ∧ H dx = some (.xd fs) ∧ XcF X.K C ∧ PySem.W.kitOne X.K (.ref C) u = some b ∧ Q (.bl b) H) := by
  intro pins s σ H xs us Q I r h
  obtain ⟨a, C, dx, fs, c, u, b, rfl, k, e1, e2, F, kk, q⟩ := h
  obtain ⟨u1, u2, rfl, r1, r2⟩ := vals2 r
  obtain rfl : u1 = Value.ref a := r1
  obtain rfl := k.eq r2
  obtain ⟨o, od, mA, hi, _, _⟩ := inst_x I e1 e2
  exact PySem.W.kia_one (PySem.W.kitx_exc (x := a) (ox := o) (od := some od) F.cl F.x.ga F.x.gg F.x.exC F.ca F.cn F.ct F.cm) I.kIn hi kk (fun z => nomatch z) fun tk => ⟨.bl b, H, I.tok tk, rfl, q⟩
/-- e.f, e a caught exception -/
theorem pe_fldX {e : Expr} {te : TE} {n : Str} {pos : Pos} (he : PE X e te) (hb : attributeBase e n X.env (eval e X.env) = eval e X.env) :
    PE X (.Attribute e n pos) (fun σ H Q => te σ H fun x H1 => ∃ (a C dx : Addr) (fs : List (Str × V)) (v : V), x = .ref a ∧ H1 a = some (xO C a dx) ∧ H1 dx = some (.xd fs) ∧ XfC X.K C ∧ PySem.W.findIn X.K (.ref C) n = some none ∧ fs.lookup n = some v ∧ Q v H1) := by
  refine ⟨fun pins s σ H Q I h => attr_of hb (thn (he.run pins s σ H _ I h) fun u s1 ⟨x, H1, I1, rx, a, C, dx, fs, v, ex, e1, e2, F, nf, l, q⟩ => ?_)⟩
  subst ex
  obtain rfl : u = Value.ref a := rx
  obtain ⟨o, od, mA, hi, hr, hl⟩ := inst_x I1 e1 e2
  obtain ⟨u, hu, ru⟩ := RelO.some_of (v := v) (o := mA n) (by rw [← l]; exact hr n)
  exact HandSPX.exc_get I1.kIn hi F.ga F.gg F.exC (PySem.W.findObj_own F.hdC nf rfl (by rw [hl, hu])) (handed_of ru) ⟨v, H1, I1.tok _, ru, q⟩
end
section
variable {X : Cx} {G : Wh} {M : Mn} {c : Cn} {S : List Nat}
theorem snd_xf {a : Ex} {f y : Str} {cs : List Nat} {p pos : Pos} (o : Ok X G M c) (ha : Snd X G M c S a (.Name y p)) (hc : ∀ i ∈ cs, (i, f) ∈ c.xf) : Snd X G M c S (.xf a f cs) (.Attribute (.Name y p) f pos) := by
  refine Snd.of ((pe_fldX ha.pe rfl).imp fun σ H Q ⟨E, B, δ, d, j, hf, q⟩ => ?_) (fun _ _ => rfl) (fun _ _ _ z => nomatch z)
  simp only [ev] at hf
  obtain ⟨d1, f1, hf⟩ := Rs.bind_ok hf
  refine ⟨E, B, δ, d1, j, f1, fun v1 H1 s1 o1 => ?_⟩
  obtain ⟨i, n, rfl⟩ : ∃ i n, d1 = .exc i n := by
    cases d1 <;> first | exact ⟨_, _, rfl⟩ | cases hf
  simp only at hf
  split at hf
  · rename_i hi
    cases hf
    obtain ⟨F, nf, xn⟩ := o.xf i f (hc i hi)
    have r1 := (o1.b j.trk).rep rfl
    cases r1 with
    | exc e h1 _ h2 _ =>
      rw [xn] at e
      cases e
      exact ⟨_, _, _, _, .int n, rfl, h1, h2, F.x, nf, by simp [List.lookup], q _ H1 s1 (.of_rep (.int _) rfl)⟩
  · cases hf
theorem pe_tg {z : Str} {j : Option Nat} {p : Pos} (o : Ok X G M c) (hz : (z, j) ∈ c.xt) (hj : tgtB c z j = true) (hg : glb X.env.scope z = true) : ∃ v, PE X (.Name z p) (tC v) ∧ ClsV v (tgV G.cl j) := by
  cases j with
  | some i => exact ⟨.ref (G.cl i), pe_glob (glb_of hg) (o.xt z i hz) rfl (plainN_of hj).1, .own _⟩
  | none =>
    unfold tgtB at hj
    rw [Bool.and_eq_true, decide_eq_true_eq, decide_eq_true_eq] at hj
    obtain ⟨rfl, hb⟩ := hj
    exact ⟨.ty "ValueError", pe_bltn (glb_of hg) (o.bl _ hb) PyProof.Rows.Boot.«ValueError» rfl (by decide) (by decide), .ty _⟩
theorem snd_isx {a : Ex} {k : Nat} {tb : List (Nat × Bool)} {y : Expr} {z : Str} {jt : Option Nat} {p p' pos : Pos} (o : Ok X G M c) (h1 : ("isinstance" : Str) ∈ c.bl) (h2 : glb X.env.scope "isinstance" = true) (h3 : c.xt[k]? = some (z, jt)) (h4 : tgtB c z jt = true) (h5 : glb X.env.scope z = true)
    (ha : Snd X G M c S a y) (n : noStar y = true) (ht : ∀ p ∈ tb, (p.1, jt, p.2) ∈ c.xq) : Snd X G M c S (.isx a k tb) (.Call (.Name "isinstance" p) [y, .Name z p'] [] pos) := by
  obtain ⟨v, ht', hv⟩ := pe_tg (p := p') o (List.mem_of_getElem? h3) h4 h5
  have hA := pa_cons ha.pe (pa_cons ht' pa_nil (starEach_cons rfl)) (starEach_cons n)
  refine Snd.of ((pe_callB call_isiX (glb_of h2) (o.bl _ h1) (by decide +kernel) hA (by decide +kernel) (by decide +kernel) (starEach_cons n) (starEach_none rfl)).imp fun σ H Q ⟨E, B, δ, d, j, hf, q⟩ => ?_) (fun _ _ => rfl) (fun _ _ _ z => nomatch z)
  simp only [ev] at hf
  obtain ⟨d1, f1, hf⟩ := Rs.bind_ok hf
  refine ⟨E, B, δ, d1, j, f1, fun v1 H1 s1 o1 => ?_⟩
  obtain ⟨i, n, rfl⟩ : ∃ i n, d1 = .exc i n := by
    cases d1 <;> first | exact ⟨_, _, rfl⟩ | cases hf
  simp only at hf
  split at hf
  · rename_i b hb
    cases hf
    obtain ⟨F, kk, _⟩ := o.xq _ _ _ (ht _ (tbl_mem hb))
    have r1 := (o1.b j.trk).rep rfl
    cases r1 with
    | exc _ e1 _ e2 _ => exact ⟨_, _, _, _, _, _, b, rfl, hv, e1, e2, F, kk, q _ H1 s1 (.of_rep (.bl _) rfl)⟩
  · cases hf
end
end PV
namespace PV
open PySem PySem.Spec PyProof.Rows L2

/-! ### enumerate(tuple) -/
section
variable {prog : Program} {w : World} {A : Around} {E : Value → Shared → Prop} {s : Shared}
theorem meets_enumT (t : Addr) (its : Array Value) :
    Meets (Builtin.«enumerate.__new__» ⟨[.type "enumerate", .ref t], []⟩) (fun _ R s => s.heap.IsTuple t its ∧
      R (.ok (.ret (.ref (s.heap.push { cls := .type "tuple_iterator", data := .fields #[.ref t, .int 0 0] }).objs.size)))
        { s with heap := (s.heap.push { cls := .type "tuple_iterator", data := .fields #[.ref t, .int 0 0] }).push { cls := .type "enumerate", data := .fields #[.none, .bool false, .ref s.heap.objs.size, rawInt 0, .none, .none] } }) :=
  .of_wp fun prog w A R s h => by
    obtain ⟨hp, g, d, tk, os⟩ := s; obtain ⟨h1, h⟩ := h
    have hsub := sub_enumerate
    have q1 : ∀ {A' : Around} {E : Value → Shared → Prop} {Q : Value → Shared → Prop}, Q (.ref hp.objs.size) ⟨hp.push { cls := .type "tuple_iterator", data := .fields #[.ref t, .int 0 0] }, g, d, tk, os⟩ → wpAny (model prog w) A' (pyIter (.ref t)) Q E ⟨hp, g, d, tk, os⟩ :=
      fun q => (begins_tuple t its).iter prog w _ _ ⟨hp, g, d, tk, os⟩ _ h1 q
    wp_walk using q1
    refine wpAny_stack_any fun st => wpAny_pure ?_
    split
    · rename_i c _ _ _ _ _
      cases (c == Value.type "enumerate") <;> (wp_walk using q1; exact ⟨_, rfl, h⟩)
    · wp_walk using q1
      exact ⟨_, rfl, h⟩
theorem call_enumT {t : Addr} {its : Array Value} {Q : Value → Shared → Prop} (hL : s.heap.IsTuple t its)
    (h : ∀ h', IsEnum h' (s.heap.objs.size + 1) s.heap.objs.size 0 .none → h'.IsTupleIter s.heap.objs.size t 0 → h'.objs.size = s.heap.objs.size + 2 →
      (∀ b o, s.heap.get? b = some o → h'.get? b = some o) → Q (.ref (s.heap.objs.size + 1)) { s with heap := h' }) :
    wpAny (model prog w) A (call (.type "enumerate") [.ref t]) Q E s := by
  refine callType_new F.called_enumerate (by decide) (F.typeCall_enumerate_1 _) (F.newCall_enumerate_1 _) (fun obj => F.args_object_init_2 obj _) F.entry_enumerate_new
    (meets_enumT t its) ⟨hL, ?_⟩
  have hz : (s.heap.push { cls := .type "tuple_iterator", data := .fields #[.ref t, .int 0 0] }).objs.size = s.heap.objs.size + 1 := Heap.size_push ..
  show _ ∧ _
  rw [hz]
  have he : IsEnum ((s.heap.push { cls := .type "tuple_iterator", data := .fields #[.ref t, .int 0 0] }).push
      { cls := .type "enumerate", data := .fields #[.none, .bool false, .ref s.heap.objs.size, rawInt 0, .none, .none] }) (s.heap.objs.size + 1) s.heap.objs.size 0 .none := by
    have := Heap.get?_push_size (s.heap.push { cls := .type "tuple_iterator", data := .fields #[.ref t, .int 0 0] })
      (o := { cls := .type "enumerate", data := .fields #[.none, .bool false, .ref s.heap.objs.size, rawInt 0, .none, .none] }) rfl
    rw [hz] at this; exact this
  exact ⟨⟨_, he, rfl⟩, h _ he ⟨_, Heap.get?_push_of_some _ (Heap.get?_push_size _ rfl), rfl, rfl⟩ (by rw [Heap.size_push, hz]) fun b o x => Heap.get?_push_of_some _ (Heap.get?_push_of_some _ x)⟩
end
def IteT (K : PySem.W.Frag) (a : Addr) : It :=
  ⟨fun i H => ∃ (xs : List V) (x : V), SqT K H a xs ∧ xs[i]? = some x, fun i H v H' => ∃ T x, v = .ref T ∧ H T = none ∧ H' = upd H T (.tup [.int (i : Nat), x]) ∧ ∀ xs, SqT K H a xs → xs[i]? = some x, fun i H => ∃ xs : List V, SqT K H a xs ∧ xs.length ≤ i⟩
theorem turn_enumT {P : Program} {w : World} {K : PySem.W.Frag} {elts : List Expr} {kk : Nat} {tpos : Pos} (a e it : Addr) :
    Turn P w K (.Tuple elts kk tpos) (IteT K a) [e, it] e (fun i h => (∃ old, IsEnum h e it ((i : Nat) : Int) old) ∧ h.IsTupleIter it a i ∧ e ≠ it) where
  mem := by simp
  obj := fun i h st b hb => by
    obtain ⟨⟨old, he⟩, ⟨o, ho, hc, hd⟩, _⟩ := st
    have e' : b = e ∨ b = it := by simpa using hb
    rcases e' with z | z
    · rw [z]; exact ⟨_, he, fun v q => nomatch q⟩
    · rw [z]; exact ⟨o, ho, fun v q => by rw [hd] at q; cases q⟩
  keep := fun i h h' st k => let ⟨⟨old, he⟩, hi, hne⟩ := st; ⟨⟨old, k e (by simp) _ he⟩, hi.at fun o q => k it (by simp) o q, hne⟩
  item := by
    intro X hP hw hK hc i pins s σ H E I hf st hg
    subst hP hw hK
    obtain ⟨⟨old, he⟩, hit, hne⟩ := st
    obtain ⟨xs, x, hq, hx⟩ := hg
    obtain ⟨its, rv, p, hz⟩ := I.tuple hq
    obtain ⟨u, hu, ru⟩ := rv.get hx
    have hel : e < s.heap.objs.size := Heap.lt_size he
    have hil : it < s.heap.objs.size := by obtain ⟨_, q, _⟩ := hit; exact Heap.lt_size q
    have ht : s.heap.IsTuple a its.toArray := p
    have ae : a ≠ e := fun z => by
      obtain ⟨o, ho, hoc, _⟩ := ht
      rw [z] at ho
      have := he.symm.trans ho
      injection this with this
      rw [← this] at hoc
      exact absurd hoc (show ¬ (Value.type "enumerate" = Value.type "tuple") by decide)
    have ai : a ≠ it := fun z => by
      obtain ⟨o, ho, hoc, _⟩ := ht
      obtain ⟨o', ho', hoc', _⟩ := hit
      rw [z] at ho
      have := ho'.symm.trans ho
      injection this with this
      rw [← this, hoc'] at hoc
      exact absurd hoc (show ¬ (Value.type "tuple_iterator" = Value.type "tuple") by decide)
    have hu' : its.toArray[i]? = some u := by simpa using hu
    have hlt : i < its.toArray.size := (Array.getElem?_eq_some_iff.mp hu').1
    have hea : e ∉ [it, a] := by simp [hne, Ne.symm ae]
    refine wpAny_pyNext_enum_itemD (Draws.tuple (A := X.A.in1) (I.ok.hd hc) it a ai its.toArray) he ⟨hit, ht⟩ hlt hne hea fun y h' tk hy ho hst hT hsz hk => ?_
    have hy' : y = u := by
      have : its.toArray[i]? = some y := hy
      rw [hu'] at this
      exact (Option.some.inj this).symm
    subst hy'
    obtain ⟨hit', ht'⟩ := hst
    refine ⟨_, rfl, wpAny_letOwnedTupleGo_enum (s := { s with heap := h', toks := tk + 1 }) ho fun h'' he' sb => ?_⟩
    have hT2 : h''.get? s.heap.objs.size = some { cls := .type "tuple", data := .seq #[.int i tk, y] } := (sb.2 _ (Nat.ne_of_gt hel)).trans hT
    have new : ObjOk X.prog X.w (upd H s.heap.objs.size (.tup [.int (i : Nat), x])) h'' s.heap.objs.size (.tup [.int (i : Nat), x]) :=
      ⟨by show 2 ≤ sizeLine; decide, [.int i tk, y], .cons ⟨_, rfl⟩ (.cons ru .nil), ⟨_, hT2, rfl, _, rfl⟩⟩
    have I1 : Inv X pins σ (upd H s.heap.objs.size (.tup [.int (i : Nat), x])) { s with heap := h'', toks := tk + 1 } :=
      I.turnedNew (ch := [e, it]) (fun b ob hb q => (sb.2 b (fun z => hb (by simp [z]))).trans (hk b ob (fun z => hb (by simp [z])) (fun z => hb (by simp [z])) q)) hf (Nat.le_refl _) new
    refine ⟨.ref s.heap.objs.size, _, I1, rfl, ⟨_, x, rfl, I.hok.fresh (Nat.le_refl _), rfl, fun ys hy => by rw [I.tuple_inj hy hq]; exact hx⟩, ⟨⟨y, ?_⟩, hit'.at fun o q => (sb.2 it (Ne.symm hne)).trans q, hne⟩, fun b hb => ?_⟩
    · have e1 : ((i + 1 : Nat) : Int) = (i : Int) + 1 := by omega
      rw [e1]; exact he'
    · have hb' : b < s.heap.objs.size := by
        have e' : b = e ∨ b = it := by simpa using hb
        rcases e' with z | z
        · rw [z]; exact hel
        · rw [z]; exact hil
      rw [upd_ne (Nat.ne_of_lt hb')]
      exact (hf b hb).1
  done := by
    intro X hP hw hK hc i pins s σ H E I hf st hg
    subst hP hw hK
    obtain ⟨⟨old, he⟩, hit, hne⟩ := st
    obtain ⟨xs, hq, hx⟩ := hg
    obtain ⟨its, rv, p, hz⟩ := I.tuple hq
    obtain ⟨f0, f1, f2, f3, f4, f5⟩ := hf it (by simp)
    have hl := rv.length
    have ht : s.heap.IsTuple a its.toArray := p
    have hT : s.TypeIs (.ref e) "enumerate" := ⟨_, he, rfl⟩
    unfold pyNext
    refine wpAny_bind (wpAny_attempt (wpAny_callSpecial?_slot (name := Str.ofString "__next__") hT F.slot_enumerate_next
      (wpAny_call_entry F.slot_enumerate_next hT F.entry_enumerate_next ?_ (F.args_enumerate_next_1 _))))
    show wpAny _ _ (field (.ref e) 2 >>= _) _ _ _
    refine wpAny_bind (wpAny_field he rfl (x := .ref it) rfl ?_)
    refine wpAny_bind (wpAny_nextOf_tuple_end (A := X.A.in1) (I.ok.hd hc) hit ht (by simp; omega) fun h' x he' hx' => ?_)
    obtain ⟨o, ho, hc'⟩ := hx'
    refine wpAny_bind (wpAny_isInstance (T := "StopIteration") (b := true) ⟨o, ho, hc'⟩ isSubtype_stop ?_)
    exact wpAny_pure ⟨rfl, I.turned (t' := s.toks) (fun b o hb q => he' b o hb q) f0 f1 f3 f4 f5⟩
  self := fun A i s Q E st h => let ⟨⟨_, he⟩, _⟩ := st; wpAny_pyIter_enum he h
def iEnumT (K : PySem.W.Frag) (ta : TA) : TI := fun σ H R => ta σ H fun vs H1 => ∃ a xs, vs = [.ref a] ∧ SqT K H1 a xs ∧ R (IteT K a) H1
theorem pi_enumT {X : Cx} {e : Expr} {ta : TA} {p pos tpos : Pos} {elts : List Expr} {kk : Nat} (hg : Gl X "enumerate") (hm : X.mg "enumerate" = none) (ha : PA X [e] ta) (hs : starEach [e] X.env = [(false, eval e X.env)] := by rfl) :
    PI X (.Tuple elts kk tpos) (.Call (.Name "enumerate" p) [e] [] pos) (iEnumT X.K ta) := by
  refine ⟨fun pins s σ H R I h => ?_⟩
  refine Call_ (ld_blt I hg hm boot_enumerate (PyProof.Rows.callWith_type1 (thn (ha.run pos pins s σ H _ I h) fun us s1 ⟨vs, H1, I1, r1, q1⟩ => ?_) hs rfl))
  obtain ⟨a, xs, ex, hq, q⟩ := q1
  subst ex
  cases r1 with
  | cons r rr =>
    cases rr
    cases r
    obtain ⟨its, rv, p', hz⟩ := I1.tuple hq
    refine call_enumT (show s1.heap.IsTuple a its.toArray from p') fun h' he hit hsz hk => wpAny_pyIter_enum he ?_
    have I2 : Inv X pins σ H1 { s1 with heap := h' } := I1.kept (t' := s1.toks) hk
    refine ⟨s1.heap.objs.size + 1, [s1.heap.objs.size + 1, s1.heap.objs.size], _, _, H1, rfl, I2, turn_enumT a (s1.heap.objs.size + 1) s1.heap.objs.size, ⟨⟨.none, he⟩, hit, Nat.succ_ne_self _⟩, fun b hb => ?_, q⟩
    have e' : b = s1.heap.objs.size + 1 ∨ b = s1.heap.objs.size := by simpa using hb
    have hle : s1.heap.objs.size ≤ b := by
      rcases e' with z | z
      · rw [z]; exact Nat.le_add_right _ _
      · rw [z]; exact Nat.le_refl _
    exact I1.fpOk hle (I1.hok.fresh hle)
end PV
namespace PV
open PySem PySem.Spec PyProof.Rows L2

/-! ### what is walked -/
structure Wk (G : Wd) (O0 : Addr → Prop) (H0 : Hp) (T : It) (ds : List D) : Prop where
  go : ∀ i d H O, Ext O0 H0 O H → Trk O H → ds[i]? = some d → T.go i H ∧ ∀ x H', T.yld i H x H' → Same H H' ∧ Rep G O H' x d
  stop : ∀ i H O, Ext O0 H0 O H → Trk O H → ds.length ≤ i → T.stop i H
def rI (G : Wh) (S : List Nat) (f : Env → Rs (List D)) : TI := fun σ H R => ∃ E B δ ds, J G S E B σ H δ ∧ f δ = .ok ds ∧ ∀ T H', Same H H' → Wk G (OS S E σ) H' T ds → R T H'
theorem _root_.L2.PI.imp {X : Cx} {tg e : Expr} {t t' : TI} (h : PI X tg e t) (w : ∀ σ H Q, t' σ H Q → t σ H Q) : PI X tg e t' := ⟨fun pins s σ H Q I hw => h.run pins s σ H Q I (w σ H Q hw)⟩
theorem iota_get : ∀ (n i : Nat) (lo : Int), (iota lo n)[i]? = if i < n then some (.int (lo + i)) else none
  | 0, i, lo => by simp [iota]
  | n + 1, 0, lo => by simp [iota]
  | n + 1, i + 1, lo => by
    rw [iota, List.getElem?_cons_succ, iota_get n i (lo + 1)]
    have : lo + 1 + (i : Int) = lo + ((i + 1 : Nat) : Int) := by omega
    rw [this]
    simp
theorem iota_len : ∀ (n : Nat) (lo : Int), (iota lo n).length = n
  | 0, _ => rfl
  | n + 1, lo => by rw [iota, List.length_cons, iota_len n]
section
variable {G : Wd} {O : Addr → Prop} {H : Hp}
/-- a list, as it is read at any later time -/
theorem lst_at {a : Addr} {ds : List D} (h : Rep G O H (.ref a) (.lst ds)) : ∃ xs, Reps G O H xs ds ∧ ∀ O1 H1, Ext O H O1 H1 → SqL G.K H1 a xs := by
  cases h with
  | lst r n h => exact ⟨_, h, fun O1 H1 x => .inl (x.rd r n).1⟩
  | lstK r h => exact ⟨_, h, fun O1 H1 _ => r H1⟩
theorem wk_list {a : Addr} {ds : List D} (h : Rep G O H (.ref a) (.lst ds)) : Wk G O H (Itl G.K a) ds := by
  obtain ⟨xs, rr, st⟩ := lst_at h
  refine ⟨fun i d H1 O1 x t e => ?_, fun i H1 O1 x t e => ⟨xs, st _ _ x, by rw [rr.length]; exact e⟩⟩
  obtain ⟨v, ev, rv⟩ := rr.get e
  have r1 := st _ _ x
  refine ⟨⟨xs, v, r1, ev⟩, fun y H' z => ?_⟩
  obtain ⟨z1, z2⟩ := z
  subst z1
  have := z2 xs r1
  rw [ev] at this
  cases this
  exact ⟨Same.refl _, rv.ext x⟩
/-- a tuple, as it is read at any later time -/
theorem tup_at {a : Addr} {ds : List D} (h : Rep G O H (.ref a) (.tup ds)) : ∃ xs, Reps G O H xs ds ∧ ∀ O1 H1, Ext O H O1 H1 → SqT G.K H1 a xs := by
  cases h with
  | tupH r n h => exact ⟨_, h, fun O1 H1 x => .inl (x.rd r n).1⟩
  | tupK r h => exact ⟨_, h, fun O1 H1 _ => r H1⟩
theorem wk_tup {a : Addr} {ds : List D} (h : Rep G O H (.ref a) (.tup ds)) : Wk G O H (Itt G.K a) ds := by
  obtain ⟨xs, rr, st⟩ := tup_at h
  refine ⟨fun i d H1 O1 x t e => ?_, fun i H1 O1 x t e => ⟨xs, st _ _ x, by rw [rr.length]; exact e⟩⟩
  obtain ⟨v, ev, rv⟩ := rr.get e
  have r1 := st _ _ x
  refine ⟨⟨xs, v, r1, ev⟩, fun y H' z => ?_⟩
  obtain ⟨z1, z2⟩ := z
  subst z1
  have := z2 xs r1
  rw [ev] at this
  cases this
  exact ⟨Same.refl _, rv.ext x⟩
theorem wk_range {lo : Int} {n : Nat} : Wk G O H (Itr lo n) (iota lo n) where
  go := fun i d H1 O1 x t e => by
    rw [iota_get] at e
    split at e
    · rename_i hi
      cases e
      refine ⟨hi, fun y H' z => ?_⟩
      obtain ⟨z1, z2⟩ := z
      subst z1
      subst z2
      exact ⟨Same.refl _, .int _⟩
    · cases e
  stop := fun i H1 O1 x t e => by rw [iota_len] at e; exact e
theorem iotaC_get (c : Int) : ∀ (n i : Nat) (lo : Int), (iotaC lo c n)[i]? = if i < n then some (.int (lo + i * c)) else none
  | 0, i, lo => by simp [iotaC]
  | n + 1, 0, lo => by simp [iotaC]
  | n + 1, i + 1, lo => by
    rw [iotaC, List.getElem?_cons_succ, iotaC_get c n i (lo + c)]
    have : lo + c + (i : Int) * c = lo + ((i + 1 : Nat) : Int) * c := by
      rw [Int.natCast_add, Int.add_mul, Int.natCast_one, Int.one_mul]; omega
    rw [this]
    simp
theorem iotaC_len (c : Int) : ∀ (n : Nat) (lo : Int), (iotaC lo c n).length = n
  | 0, _ => rfl
  | n + 1, lo => by rw [iotaC, List.length_cons, iotaC_len c n]
theorem wk_rangeC {lo c : Int} {n : Nat} : Wk G O H (Itc lo c n) (iotaC lo c n) where
  go := fun i d H1 O1 x t e => by
    rw [iotaC_get] at e
    split at e
    · rename_i hi
      cases e
      refine ⟨hi, fun y H' z => ?_⟩
      obtain ⟨z1, z2⟩ := z
      subst z1
      subst z2
      exact ⟨Same.refl _, .int _⟩
    · cases e
  stop := fun i H1 O1 x t e => by rw [iotaC_len] at e; exact e
theorem wk_str {z : Str} : Wk G O H (Its z) (z.cps.toList.map fun c => .str ⟨#[c]⟩) where
  go := fun i d H1 O1 x t e => by
    rw [List.getElem?_map] at e
    cases q : z.cps.toList[i]? with
    | none => rw [q] at e; cases e
    | some c =>
      rw [q] at e
      cases e
      have hi : i < z.cps.size := by
        have := (List.getElem?_eq_some_iff.mp q).1
        simpa using this
      refine ⟨hi, fun y H' w => ?_⟩
      obtain ⟨w1, c', w2, w3⟩ := w
      subst w1
      subst w3
      have : c' = c := by
        rw [Array.getElem?_toList] at q
        rw [q] at w2
        exact (Option.some.inj w2).symm
      subst this
      exact ⟨Same.refl _, .str _⟩
  stop := fun i H1 O1 x t e => by
    show z.cps.size ≤ i
    simpa using e
theorem zipWith_get {α β γ : Type} (f : α → β → γ) : ∀ (xs : List α) (ys : List β) (i : Nat) (z : γ), (xs.zipWith f ys)[i]? = some z → ∃ x y, xs[i]? = some x ∧ ys[i]? = some y ∧ z = f x y
  | [], _, _, _, h => by simp at h
  | _ :: _, [], _, _, h => by simp at h
  | x :: xs, y :: ys, 0, z, h => ⟨x, y, rfl, rfl, by simpa using h.symm⟩
  | x :: xs, y :: ys, i + 1, z, h => by
    obtain ⟨a, b, h1, h2, h3⟩ := zipWith_get f xs ys i z (by simpa using h)
    exact ⟨a, b, by simpa using h1, by simpa using h2, h3⟩
theorem new_pair {O1 : Addr → Prop} {H1 : Hp} {T : Addr} {x y : V} {d e : D} (t : Trk O1 H1) (hT : H1 T = none) (rx : Rep G O1 H1 x d) (ry : Rep G O1 H1 y e) : Rep G O1 (upd H1 T (.tup [x, y])) (.ref T) (.tup [d, e]) :=
  new_tup t hT (.cons rx (.cons ry .nil))
theorem wk_enum {a : Addr} {ds : List D} (h : Rep G O H (.ref a) (.lst ds)) : Wk G O H (Ite G.K a) ((iota 0 ds.length).zipWith (fun i d => D.tup [i, d]) ds) := by
  obtain ⟨xs, rr, st⟩ := lst_at h
  refine ⟨fun i d H1 O1 x t e => ?_, fun i H1 O1 x t e => ⟨xs, st _ _ x, by
    rw [rr.length]
    rw [List.length_zipWith, iota_len] at e
    omega⟩⟩
  obtain ⟨k, d', e1, e2, rfl⟩ := zipWith_get _ _ _ _ _ e
  rw [iota_get] at e1
  split at e1
  · cases e1
    obtain ⟨v, ev, rv⟩ := rr.get e2
    have r1 := st _ _ x
    refine ⟨⟨xs, v, r1, ev⟩, fun y H' z => ?_⟩
    obtain ⟨T, w, z1, z2, z3, z4⟩ := z
    subst z1
    subst z3
    have := z4 xs r1
    rw [ev] at this
    cases this
    refine ⟨same_new z2, ?_⟩
    have e0 : (0 : Int) + (i : Int) = (i : Int) := by omega
    rw [e0]
    exact new_pair t z2 (.int _) (rv.ext x)
  · cases e1
theorem wk_enumT {a : Addr} {ds : List D} (h : Rep G O H (.ref a) (.tup ds)) : Wk G O H (IteT G.K a) ((iota 0 ds.length).zipWith (fun i d => D.tup [i, d]) ds) := by
  obtain ⟨xs, rr, st⟩ := tup_at h
  refine ⟨fun i d H1 O1 x t e => ?_, fun i H1 O1 x t e => ⟨xs, st _ _ x, by
    rw [rr.length]
    rw [List.length_zipWith, iota_len] at e
    omega⟩⟩
  obtain ⟨k, d', e1, e2, rfl⟩ := zipWith_get _ _ _ _ _ e
  rw [iota_get] at e1
  split at e1
  · cases e1
    obtain ⟨v, ev, rv⟩ := rr.get e2
    have r1 := st _ _ x
    refine ⟨⟨xs, v, r1, ev⟩, fun y H' z => ?_⟩
    obtain ⟨T, w, z1, z2, z3, z4⟩ := z
    subst z1
    subst z3
    have := z4 xs r1
    rw [ev] at this
    cases this
    refine ⟨same_new z2, ?_⟩
    have e0 : (0 : Int) + (i : Int) = (i : Int) := by omega
    rw [e0]
    exact new_pair t z2 (.int _) (rv.ext x)
  · cases e1
theorem wk_zipL {a b : Addr} {ds es : List D} (h : Rep G O H (.ref a) (.lst ds)) (h' : Rep G O H (.ref b) (.lst es)) : Wk G O H (Itz G.K a b) (ds.zipWith (fun c d => D.tup [c, d]) es) := by
  obtain ⟨xs, rr, st⟩ := lst_at h
  obtain ⟨ys, rr', st'⟩ := lst_at h'
  refine ⟨fun i d H1 O1 x t e => ?_, fun i H1 O1 x t e => ⟨xs, ys, st _ _ x, st' _ _ x, by
    rw [rr.length, rr'.length]
    rw [List.length_zipWith] at e
    omega⟩⟩
  obtain ⟨d1, d2, e1, e2, rfl⟩ := zipWith_get _ _ _ _ _ e
  obtain ⟨v, ev, rv⟩ := rr.get e1
  obtain ⟨v', ev', rv'⟩ := rr'.get e2
  have q1 := st _ _ x
  have q2 := st' _ _ x
  refine ⟨⟨xs, ys, v, v', q1, q2, ev, ev'⟩, fun y H' z => ?_⟩
  obtain ⟨T, w, w', z1, z2, z3, z4, z5⟩ := z
  subst z1
  subst z3
  have h4 := z4 xs q1
  have h5 := z5 ys q2
  rw [ev] at h4
  rw [ev'] at h5
  cases h4
  cases h5
  exact ⟨same_new z2, new_pair t z2 (rv.ext x) (rv'.ext x)⟩
theorem wk_zipT {a b : Addr} {ds es : List D} (h : Rep G O H (.ref a) (.tup ds)) (h' : Rep G O H (.ref b) (.tup es)) : Wk G O H (RZ.ItzT G.K a b) (ds.zipWith (fun c d => D.tup [c, d]) es) := by
  obtain ⟨xs, rr, st⟩ := tup_at h
  obtain ⟨ys, rr', st'⟩ := tup_at h'
  refine ⟨fun i d H1 O1 x t e => ?_, fun i H1 O1 x t e => ⟨xs, ys, st _ _ x, st' _ _ x, by
    rw [rr.length, rr'.length]
    rw [List.length_zipWith] at e
    omega⟩⟩
  obtain ⟨d1, d2, e1, e2, rfl⟩ := zipWith_get _ _ _ _ _ e
  obtain ⟨v, ev, rv⟩ := rr.get e1
  obtain ⟨v', ev', rv'⟩ := rr'.get e2
  have q1 := st _ _ x
  have q2 := st' _ _ x
  refine ⟨⟨xs, ys, v, v', q1, q2, ev, ev'⟩, fun y H' z => ?_⟩
  obtain ⟨T, w, w', z1, z2, z3, z4, z5⟩ := z
  subst z1
  subst z3
  have h4 := z4 xs q1
  have h5 := z5 ys q2
  rw [ev] at h4
  rw [ev'] at h5
  cases h4
  cases h5
  exact ⟨same_new z2, new_pair t z2 (rv.ext x) (rv'.ext x)⟩
end
/-! ### one walk of several kinds -/
theorem pi_or {X : Cx} {tg e : Expr} {t t' : TI} (h : PI X tg e t) (h' : PI X tg e t') : PI X tg e (fun σ H R => t σ H R ∨ t' σ H R) := ⟨fun pins s σ H R I hw => hw.elim (h.run pins s σ H R I) (h'.run pins s σ H R I)⟩
section
variable {X : Cx} {G : Wh} {M : Mn} {c : Cn} {S : List Nat}
theorem okI_of {i : Int} (h : okI i = true) : -(2 ^ 62) ≤ i ∧ i < 2 ^ 62 := by
  unfold okI at h
  rw [Bool.and_eq_true] at h
  exact ⟨of_decide_eq_true h.1, of_decide_eq_true h.2⟩
theorem snd_val {e : Ex} {tg x : Expr} (o : Ok X G M c) (he : Snd X G M c S e x) (n : nb c S e = true) : PIB X tg x (rI G S (evr M (.val e))) := by
  refine ((pihL he.pe).or ((pihT he.pe).or (pihS he.pe))).imp fun σ H R ⟨E, B, δ, ds, j, hf, k⟩ => ?_
  simp only [evr] at hf
  obtain ⟨d, f1, hf⟩ := Rs.bind_ok hf
  cases d <;> try (cases hf; done)
  · cases hf
    refine .inr (.inr ⟨E, B, δ, _, j, f1, fun v H1 s1 o1 => ?_⟩)
    exact ⟨_, (o1.b j.trk).str, k _ _ s1 wk_str⟩
  · cases hf
    refine .inr (.inl ⟨E, B, δ, _, j, f1, fun v H1 s1 o1 => ?_⟩)
    have r := o1.f j.trk (nb_of n)
    obtain ⟨p, xs, rfl, hp, rr⟩ := r.tup
    exact ⟨p, rfl, ⟨xs, o.K ▸ hp⟩, k _ _ s1 (o.K ▸ wk_tup r)⟩
  · cases hf
    refine .inl ⟨E, B, δ, _, j, f1, fun v H1 s1 o1 => ?_⟩
    have r := o1.f j.trk (nb_of n)
    obtain ⟨p, xs, rfl, hp, rr⟩ := RepB.lst (G := G) (O := OS S E σ) (.inl r)
    exact ⟨p, rfl, ⟨xs, o.K ▸ hp⟩, k _ _ s1 (o.K ▸ wk_list r)⟩
  · cases hf
    refine .inl ⟨E, B, δ, _, j, f1, fun v H1 s1 o1 => ?_⟩
    have r0 := o1.f j.trk (nb_of n)
    cases r0 with
    | nst r =>
      obtain ⟨p, xs, rfl, hp, rr⟩ := RepB.lst (G := G) (O := OS S E σ) (.inl r)
      exact ⟨p, rfl, ⟨xs, o.K ▸ hp⟩, k _ _ s1 (o.K ▸ wk_list r)⟩
theorem snd_rng1 {a : Ex} {tg x : Expr} {p pos : Pos} (o : Ok X G M c) (h1 : ("range" : Str) ∈ c.bl) (h2 : glb X.env.scope "range" = true) (ha : Snd X G M c S a x) (n : noStar x = true) : PI X tg (.Call (.Name "range" p) [x] [] pos) (rI G S (evr M (.rng1 a))) := by
  refine (pi_range1 (glb_of h2) (o.bl _ h1) (pa_cons ha.pe pa_nil (starEach_cons n)) (starEach_cons n)).imp fun σ H R ⟨E, B, δ, ds, j, hf, k⟩ => ?_
  simp only [evr] at hf
  obtain ⟨d, f1, hf⟩ := Rs.bind_ok hf
  cases d <;> try (cases hf; done)
  rename_i i
  simp only at hf
  split at hf
  · rename_i hi
    cases hf
    have := okI_of hi
    exact ⟨E, B, δ, _, j, f1, fun v H1 s1 o1 => ⟨i, by rw [o1.int j.trk], this.1, this.2, k _ _ s1 wk_range⟩⟩
  · cases hf
theorem snd_rng2 {a b : Ex} {tg x y : Expr} {p pos : Pos} (o : Ok X G M c) (h1 : ("range" : Str) ∈ c.bl) (h2 : glb X.env.scope "range" = true) (ha : Snd X G M c S a x) (n : noStar x = true) (hb : Snd X G M c S b y) (n' : noStar y = true) : PI X tg (.Call (.Name "range" p) [x, y] [] pos) (rI G S (evr M (.rng2 a b))) := by
  refine (pi_range2 (glb_of h2) (o.bl _ h1) (pa_cons ha.pe (pa_cons hb.pe pa_nil (starEach_cons n')) (starEach_cons n)) (by rw [starEach_cons n, starEach_cons n']; rfl) (starEach_cons n')).imp fun σ H R ⟨E, B, δ, ds, j, hf, k⟩ => ?_
  simp only [evr] at hf
  obtain ⟨d, f1, hf⟩ := Rs.bind_ok hf
  obtain ⟨e, f2, hf⟩ := Rs.bind_ok hf
  cases d <;> (try (cases hf; done)) <;> cases e <;> try (cases hf; done)
  simp only at hf
  split at hf
  · rename_i hi
    cases hf
    rw [Bool.and_eq_true] at hi
    have q1 := okI_of hi.1
    have q2 := okI_of hi.2
    exact ⟨E, B, δ, _, j, f1, fun v H1 s1 o1 => ⟨E, B, δ, _, j.same s1, f2, fun v' H2 s2 o2 => ⟨_, _, by rw [o1.int j.trk, o2.int (j.same s1).trk], ⟨q1.1, q1.2, q2.1, q2.2⟩, k _ _ (s1.trans s2) wk_range⟩⟩⟩
  · cases hf
theorem snd_enum {a : Ex} {x : Expr} {p pos tpos : Pos} {es : List Expr} {kk : Nat} (o : Ok X G M c) (h1 : ("enumerate" : Str) ∈ c.bl) (h2 : glb X.env.scope "enumerate" = true) (ha : Snd X G M c S a x) (n : noStar x = true) (na : nb c S a = true) :
    PI X (.Tuple es kk tpos) (.Call (.Name "enumerate" p) [x] [] pos) (rI G S (evr M (.enum a))) := by
  refine (pi_or (pi_enum (glb_of h2) (o.bl _ h1) (pa_cons ha.pe pa_nil (starEach_cons n)) (starEach_cons n)) (pi_enumT (glb_of h2) (o.bl _ h1) (pa_cons ha.pe pa_nil (starEach_cons n)) (starEach_cons n))).imp fun σ H R ⟨E, B, δ, ds, j, hf, k⟩ => ?_
  simp only [evr] at hf
  obtain ⟨d, f1, hf⟩ := Rs.bind_ok hf
  cases d <;> try (cases hf; done)
  · cases hf
    refine .inr ⟨E, B, δ, _, j, f1, fun v H1 s1 o1 => ?_⟩
    have r := o1.f j.trk (nb_of na)
    obtain ⟨p, xs, rfl, hp, rr⟩ := r.tup
    exact ⟨p, xs, rfl, o.K ▸ hp, k _ _ s1 (o.K ▸ wk_enumT r)⟩
  · cases hf
    refine .inl ⟨E, B, δ, _, j, f1, fun v H1 s1 o1 => ?_⟩
    have r := o1.f j.trk (nb_of na)
    obtain ⟨p, xs, rfl, hp, rr⟩ := RepB.lst (G := G) (O := OS S E σ) (.inl r)
    exact ⟨p, xs, rfl, o.K ▸ hp, k _ _ s1 (o.K ▸ wk_enum r)⟩
theorem snd_rng3 {a b : Ex} {k : Int} {tg x y : Expr} {p pos pk : Pos} {nk : Nat} (o : Ok X G M c) (h1 : ("range" : Str) ∈ c.bl) (h2 : glb X.env.scope "range" = true) (ha : Snd X G M c S a x) (n : noStar x = true) (hb : Snd X G M c S b y) (n' : noStar y = true) : PI X tg (.Call (.Name "range" p) [x, y, .Constant (.int k) nk pk] [] pos) (rI G S (evr M (.rng3 a b k))) := by
  have hk : PE X (.Constant (.int k) nk pk) (rE G S .frz (fun _ => Rs.ok (D.int k))) := pe_int.imp fun σ H Q ⟨E, B, δ, d, j, hf, q⟩ => by cases hf; exact q _ H (Same.refl H) (.of_rep (.int _) rfl)
  have n3 : noStar (.Constant (.int k) nk pk) = true := rfl
  refine (pi_range3 (glb_of h2) (o.bl _ h1) (pa_cons ha.pe (pa_cons hb.pe (pa_cons hk pa_nil (starEach_cons n3)) (starEach_cons n')) (starEach_cons n)) (starEach_cons n) (starEach_none (by simp [n', n3]))).imp fun σ H R ⟨E, B, δ, ds, j, hf, q⟩ => ?_
  simp only [evr] at hf
  obtain ⟨d, f1, hf⟩ := Rs.bind_ok hf
  obtain ⟨e, f2, hf⟩ := Rs.bind_ok hf
  cases d <;> (try (cases hf; done)) <;> cases e <;> try (cases hf; done)
  simp only at hf
  split at hf
  · rename_i i _ i2 hi
    cases hf
    rw [Bool.and_eq_true, Bool.and_eq_true, decide_eq_true_eq, decide_eq_true_eq] at hi
    refine ⟨E, B, δ, _, j, f1, fun v H1 s1 o1 => ⟨E, B, δ, _, j.same s1, f2, fun v' H2 s2 o2 => ⟨E, B, δ, _, j.same (s1.trans s2), rfl, fun v3 H3 s3 o3 => ⟨_, _, k, _, by rw [o1.int j.trk, o2.int (j.same s1).trk, o3.int (j.same (s1.trans s2)).trk], ⟨hi.1.1, hi.1.2, hi.2, rangeSize_toNat _ _ _⟩, q _ _ ((s1.trans s2).trans s3) wk_rangeC⟩⟩⟩⟩
  · cases hf
theorem snd_zip {a b : Ex} {x y : Expr} {p pos tpos : Pos} {es : List Expr} {kk : Nat} (o : Ok X G M c) (h1 : ("zip" : Str) ∈ c.bl) (h2 : glb X.env.scope "zip" = true) (ha : Snd X G M c S a x) (n : noStar x = true) (hb : Snd X G M c S b y) (n' : noStar y = true) (na : nb c S a = true) (nb' : nb c S b = true) :
    PI X (.Tuple es kk tpos) (.Call (.Name "zip" p) [x, y] [] pos) (rI G S (evr M (.zip a b))) := by
  refine (RZ.pi_zipA (glb_of h2) (o.bl _ h1) (pa_cons ha.pe (pa_cons hb.pe pa_nil (starEach_cons n')) (starEach_cons n)) (starEach_cons n) (starEach_none (by simp [n']))).imp fun σ H R ⟨E, B, δ, ds, j, hf, k⟩ => ?_
  simp only [evr] at hf
  obtain ⟨d, f1, hf⟩ := Rs.bind_ok hf
  obtain ⟨e, f2, hf⟩ := Rs.bind_ok hf
  cases d <;> (try (cases hf; done)) <;> cases e <;> try (cases hf; done)
  · cases hf
    refine ⟨E, B, δ, _, j, f1, fun v H1 s1 o1 => ⟨E, B, δ, _, j.same s1, f2, fun v' H2 s2 o2 => ?_⟩⟩
    have r1 := (o1.f j.trk (nb_of na)).same s2
    have r2 := o2.f (j.same s1).trk (nb_of nb')
    obtain ⟨p1, xs, rfl, hp1, rr1⟩ := r1.tup
    obtain ⟨p2, ys, rfl, hp2, rr2⟩ := r2.tup
    exact ⟨p1, p2, xs, ys, rfl, .inr ⟨o.K ▸ hp1, o.K ▸ hp2, k _ _ (s1.trans s2) (o.K ▸ wk_zipT r1 r2)⟩⟩
  · cases hf
    refine ⟨E, B, δ, _, j, f1, fun v H1 s1 o1 => ⟨E, B, δ, _, j.same s1, f2, fun v' H2 s2 o2 => ?_⟩⟩
    have r1 := (o1.f j.trk (nb_of na)).same s2
    have r2 := o2.f (j.same s1).trk (nb_of nb')
    obtain ⟨p1, xs, rfl, hp1, rr1⟩ := RepB.lst (G := G) (O := OS S E σ) (.inl r1)
    obtain ⟨p2, ys, rfl, hp2, rr2⟩ := RepB.lst (G := G) (O := OS S E σ) (.inl r2)
    exact ⟨p1, p2, xs, ys, rfl, .inl ⟨o.K ▸ hp1, o.K ▸ hp2, k _ _ (s1.trans s2) (o.K ▸ wk_zipL r1 r2)⟩⟩
end
end PV
namespace PV
open PySem PySem.Spec PyProof.Rows L2

/-! ### names that are stored -/
section
variable {G : Wh} {S : List Nat} {E : Ev} {B : Hp} {σ σ' : L2.St} {H H' : Hp} {δ : Env}
theorem OS_set {i : Nat} {x : Option V} (h : i ∉ S) : OS S E (σ.set i x) = OS S E σ := rfl
theorem J.set0 (j : J G S E B σ H δ) {i : Nat} {x : Option V} {y : Option D} (h : i ∉ S) (r : ∀ d, y = some d → ∃ v, x = some v ∧ Rep G (OS S E σ) H v d) : J G S E B (σ.set i x) H (δ.set i y) := by
  refine ⟨by simp [j.len], fun k e hk he => ?_, fun k hk => ?_, j.dj, j.ex, j.bs, fun p hp h0 => ?_, j.ht⟩
  · by_cases z : i = k
    · subst z
      by_cases hl : i < δ.length
      · rw [List.getElem?_set_self hl] at he
        cases he
        obtain ⟨v, e1, e2⟩ := r _ rfl
        exact ⟨v, by rw [List.getElem?_set_self (by rw [j.len]; exact hl), e1], e2⟩
      · rw [List.getElem?_eq_none (by simp; omega)] at he
        cases he
    · rw [List.getElem?_set_ne z] at he
      rw [List.getElem?_set_ne z]
      exact j.fz k e hk he
  · have z : i ≠ k := fun z => h (z ▸ hk)
    rw [List.getElem?_set_ne z, List.getElem?_set_ne z]
    exact j.ow k hk
  · rw [List.getElem?_set_ne (show i ≠ 0 from fun z => h (z ▸ h0))]
    exact j.pz p hp h0
theorem J.set (j : J G S E B σ H δ) {i : Nat} {v : V} {d : D} (h : i ∉ S) (r : Rep G (OS S E σ) H v d) : J G S E B (σ.set i (some v)) H (δ.set i (some d)) :=
  j.set0 h fun d' e => by cases e; exact ⟨v, rfl, r⟩
theorem J.wipe (j : J G S E B σ H δ) : ∀ {vs : List Nat}, (∀ i ∈ vs, i ∉ S) → J G S E B (wipe σ vs) H (wipeD δ vs) ∧ OS S E (wipe σ vs) = OS S E σ
  | [], _ => ⟨j, rfl⟩
  | i :: vs, h => by
    obtain ⟨k, e⟩ := J.wipe j (vs := vs) fun i hi => h i (List.mem_cons_of_mem _ hi)
    exact ⟨k.set0 (h i List.mem_cons_self) fun d e => (by cases e), rfl⟩
end
def setsV (is : List Nat) (vs : List V) (σ : L2.St) : L2.St := (is.zip vs).foldl (fun σ p => σ.set p.1 (some p.2)) σ
def setsD (is : List Nat) (ds : List D) (δ : Env) : Env := (is.zip ds).foldl (fun δ p => δ.set p.1 (some p.2)) δ
theorem setsV_out : ∀ {is : List Nat} {vs : List V} {σ : L2.St} {i : Nat}, i ∉ is → (setsV is vs σ)[i]? = σ[i]?
  | [], _, _, _, _ => rfl
  | _ :: _, [], _, _, _ => rfl
  | k :: is, v :: vs, σ, i, h => by
    have := setsV_out (is := is) (vs := vs) (σ := σ.set k (some v)) (i := i) fun z => h (List.mem_cons_of_mem _ z)
    show (setsV is vs (σ.set k (some v)))[i]? = _
    rw [this, List.getElem?_set_ne (show k ≠ i from fun z => h (z ▸ List.mem_cons_self))]
theorem J.sets {G : Wh} {S : List Nat} {E : Ev} {B : Hp} {H : Hp} : ∀ {is : List Nat} {vs : List V} {ds : List D} {σ : L2.St} {δ : Env}, J G S E B σ H δ → (∀ i ∈ is, i ∉ S) → Reps G (OS S E σ) H vs ds → J G S E B (setsV is vs σ) H (setsD is ds δ)
  | [], _, _, _, _, j, _, _ => j
  | _ :: _, _, _, _, _, j, _, .nil => j
  | i :: is, v :: vs, d :: ds, σ, δ, j, h, .cons r rs => by
    have hi := h i List.mem_cons_self
    refine J.sets (is := is) (j.set hi r) (fun k hk => h k (List.mem_cons_of_mem _ hk)) ?_
    rw [OS_set hi]
    exact rs
theorem wipe_get {σ : L2.St} {i : Nat} : ∀ {vs : List Nat}, i ∈ vs → i < σ.length → (wipe σ vs)[i]? = some none
  | v :: vs, h, hl => by
    show ((wipe σ vs).set v none)[i]? = _
    by_cases z : v = i
    · subst z
      rw [List.getElem?_set_self (by rw [wipe_length]; exact hl)]
    · rw [List.getElem?_set_ne z]
      rcases List.mem_cons.mp h with e | h
      · exact absurd e.symm z
      · exact wipe_get h hl
theorem wipe_same {σ σ' : L2.St} {vs : List Nat} (hl : σ.length = σ'.length) (h : ∀ i, i ∉ vs → σ[i]? = σ'[i]?) : wipe σ vs = wipe σ' vs := by
  apply List.ext_getElem?
  intro i
  by_cases hi : i ∈ vs
  · by_cases hb : i < σ.length
    · rw [wipe_get hi hb, wipe_get hi (hl ▸ hb)]
    · rw [List.getElem?_eq_none (by rw [wipe_length]; omega), List.getElem?_eq_none (by rw [wipe_length]; omega)]
  · rw [wipe_out hi, wipe_out hi]
    exact h i hi

/-! ### targets -/
def rG (G : Wh) (S : List Nat) (tg : Tg) : TG := fun v σ H Q => ∃ E B δ d δ', J G S E B σ H δ ∧ Rep G (OS S E σ) H v d ∧ tset1 tg d δ = .ok δ' ∧ ∀ σ', J G S E B σ' H δ' → (∀ i, i ∉ tg.slots → σ'[i]? = σ[i]?) → OS S E σ' = OS S E σ → Q σ' H
theorem _root_.L2.PG.imp {X : Cx} {e : Expr} {t t' : TG} (h : PG X e t) (w : ∀ v σ H Q, t' v σ H Q → t v σ H Q) : PG X e t' := ⟨fun pins s σ H v u Q I r hw => h.run pins s σ H v u Q I r (w v σ H Q hw)⟩
theorem _root_.L2.PGs.imp {X : Cx} {e : List Expr} {t t' : TGs} (h : PGs X e t) (w : ∀ v σ H Q, t' v σ H Q → t v σ H Q) : PGs X e t' := ⟨fun pins s σ H v u Q I r hw => h.run pins s σ H v u Q I r (w v σ H Q hw)⟩
/-- a name that may be stored -/
def StoreOk (X : Cx) (i : Nat) (e : Expr) : Prop := ∃ x p, e = .Name x p ∧ X.N[i]? = some x ∧ Loc X.env.scope x ∧ (X.fn x = true ∨ X.env.scope.names.lookup x = some .local)
def StoresOk (X : Cx) : List Nat → List Expr → Prop
  | [], [] => True
  | i :: is, e :: es => StoreOk X i e ∧ StoresOk X is es
  | _, _ => False
theorem assignEach_names {X : Cx} : ∀ {is : List Nat} {es : List Expr}, StoresOk X is es → assignEach es X.env = es.map fun e => (false, assign e X.env)
  | [], [], _ => rfl
  | i :: is, e :: es, h => by
    obtain ⟨⟨x, p, rfl, _⟩, h2⟩ := h
    have := assignEach_names h2
    show (false, assign (.Name x p) X.env) :: assignEach es X.env = _
    rw [this]; rfl
  | [], _ :: _, h => h.elim
  | _ :: _, [], h => h.elim
theorem StoresOk.len {X : Cx} : ∀ {is : List Nat} {es : List Expr}, StoresOk X is es → es.length = is.length
  | [], [], _ => rfl
  | i :: is, e :: es, h => by rw [List.length_cons, List.length_cons, StoresOk.len h.2]
  | [], _ :: _, h => h.elim
  | _ :: _, [], h => h.elim
theorem pgs_all {X : Cx} (nd : X.N.Nodup) : ∀ {is : List Nat} {es : List Expr}, StoresOk X is es → PGs X es fun vs σ H Q => vs.length = is.length ∧ Q (setsV is vs σ) H
  | [], [], _ => pgs_nil.imp fun vs σ H Q ⟨h1, h2⟩ => by
    have : vs = [] := List.eq_nil_of_length_eq_zero h1
    subst this
    exact ⟨rfl, h2⟩
  | i :: is, e :: es, h => by
    obtain ⟨⟨x, p, rfl, h1, h3, h4⟩, h2⟩ := h
    refine (pgs_cons (pg_name nd h1 h3 h4) (pgs_all nd h2) rfl).imp fun vs σ H Q ⟨w1, w2⟩ => ?_
    cases vs with
    | nil => cases w1
    | cons v vs => exact ⟨v, vs, rfl, by simpa using w1, w2⟩
  | [], _ :: _, h => h.elim
  | _ :: _, [], h => h.elim
theorem findIdx_none {α : Type} {f : α → Sem Unit} {g : Value → Sem Unit} : ∀ es : List Expr, (es.map fun e => ((false, g) : Bool × (Value → Sem Unit))).findIdx? (·.1) = none := by
  intro es
  induction es with
  | nil => rfl
  | cons e es ih => simp
def TgOk (X : Cx) : Tg → Expr → Prop
  | .one i, e => StoreOk X i e
  | .many is, e => ∃ es k p, e = .Tuple es k p ∧ StoresOk X is es
theorem pg_or {X : Cx} {e : Expr} {t t' : TG} (h : PG X e t) (h' : PG X e t') : PG X e (fun v σ H Q => t v σ H Q ∨ t' v σ H Q) := ⟨fun pins s σ H v u Q I rv hw => hw.elim (h.run pins s σ H v u Q I rv) (h'.run pins s σ H v u Q I rv)⟩
theorem pg_all {X : Cx} {G : Wh} {S : List Nat} {tg : Tg} {e : Expr} (hK : G.K = X.K) (nd : X.N.Nodup) (hw : ∀ {E : Ev} {B : Hp} {σ : L2.St} {H : Hp} {δ : Env}, J G S E B σ H δ → Warm X H) (h : TgOk X tg e) (hS : ∀ i ∈ tg.slots, i ∉ S) : PG X e (rG G S tg) := by
  cases tg with
  | one i =>
    obtain ⟨x, p, rfl, h1, h2, h3⟩ := h
    refine (pg_name nd h1 h2 h3).imp fun v σ H Q ⟨E, B, δ, d, δ', j, r, e, k⟩ => ?_
    cases e
    have hi : i ∉ S := hS i (by simp [Tg.slots])
    exact k _ (j.set hi r) (fun m hm => by rw [List.getElem?_set_ne (fun z => hm (by simp [Tg.slots, z]))]) (OS_set hi)
  | many is =>
    obtain ⟨es, k, p, rfl, hs⟩ := h
    have ea := assignEach_names hs
    have fin : ∀ {σ : L2.St} {H : Hp} {Q : L2.St → Hp → Prop} {E : Ev} {B : Hp} {δ : Env} {xs : List V} {ds : List D}, J G S E B σ H δ → Reps G (OS S E σ) H xs ds → is.length = ds.length →
        (∀ σ', J G S E B σ' H ((is.zip ds).foldl (fun δ p => δ.set p.1 (some p.2)) δ) → (∀ m, m ∉ (Tg.many is).slots → σ'[m]? = σ[m]?) → OS S E σ' = OS S E σ → Q σ' H) → Q (setsV is xs σ) H := by
      intro σ H Q E B δ xs ds j rr hl k
      have jj := j.sets (is := is) hS rr
      exact k _ jj (fun m hm => setsV_out hm) rfl
    have e1 : (assignEach es X.env).length = is.length := by rw [ea, List.length_map, hs.len]
    have e2 : (assignEach es X.env).findIdx? (·.1) = none := by rw [ea]; clear ea hs fin e1; induction es <;> simp_all
    refine (pg_or (pg_tupW (n := is.length) (pgs_all nd hs) e1 e2) (pg_unlW (n := is.length) (pgs_all nd hs) e1 e2)).imp fun v σ H Q ⟨E, B, δ, d, δ', j, r, e, k⟩ => ?_
    cases d <;> try (cases e; done)
    · simp only [tset1] at e
      split at e
      · rename_i hl
        cases e
        obtain ⟨a, xs, rfl, ha, rr⟩ := r.tup
        exact .inl ⟨hw j, a, xs, rfl, hK ▸ ha, by rw [rr.length, ← hl], by rw [rr.length, ← hl], fin j rr hl k⟩
      · cases e
    · simp only [tset1] at e
      split at e
      · rename_i hl
        cases e
        obtain ⟨a, xs, rfl, ha, rr⟩ := RepB.lst (G := G) (O := OS S E σ) (.inl r)
        exact .inr ⟨hw j, a, xs, rfl, hK ▸ ha, by rw [rr.length, ← hl], by rw [rr.length, ← hl], fin j rr hl k⟩
      · cases e

/-! ### list comprehensions -/
theorem Ok.blk {X : Cx} {G : Wh} {M : Mn} {c : Cn} (o : Ok X G M c) {s : Shared} {H : Hp} {scope : Scope} {env : PySem.Env} {fp : List Addr} : Ok (X.blk s H scope env fp) G M c :=
  ⟨o.K, o.w, o.N, o.nd, o.nn, o.cm, o.wm, o.hu, o.fn, o.fh, o.ms, o.cs, o.ia, o.gl, o.bl, o.fm, o.xt, o.xq, o.xr, o.xf⟩
theorem own_slots (c : Cn) (is : List Nat) : (own c is).map (·.2) = is := by
  unfold own
  rw [List.map_map]
  induction is with
  | nil => rfl
  | cons i is ih => rw [List.map_cons, ih]; rfl
theorem loc_of {sc : Scope} {x : Str} (h : locB sc x = true) : sc.names.lookup x = some .local := by
  unfold locB at h
  split at h
  · assumption
  · cases h
theorem stores_zip {X : Cx} {c : Cn} (hN : X.N = c.N) : ∀ {is : List Nat} {es : List Expr}, is.length = es.length → ((is.zip es).all fun p => match p.2 with
      | .Name x _ => decide (c.N[p.1]? = some x) && locB X.env.scope x
      | _ => false) = true → StoresOk X is es
  | [], [], _, _ => trivial
  | i :: is, e :: es, hl, h => by
    rw [List.zip_cons_cons, List.all_cons, Bool.and_eq_true] at h
    refine ⟨?_, stores_zip hN (by simpa using hl) h.2⟩
    have h1 := h.1
    cases e <;> try (cases h1; done)
    simp only [Bool.and_eq_true, decide_eq_true_eq] at h1
    have q := loc_of h1.2
    exact ⟨_, _, rfl, hN ▸ h1.1, .inl q, .inr q⟩
theorem store_T {X : Cx} {c : Cn} (hN : X.N = c.N) {tg : Tg} {e : Expr} (h : chkT c X.env.scope tg e = true) : TgOk X tg e := by
  cases tg with
  | one i =>
    cases e <;> try (cases h; done)
    simp only [chkT, Bool.and_eq_true, decide_eq_true_eq] at h
    have q := loc_of h.2
    exact ⟨_, _, rfl, hN ▸ h.1, .inl q, .inr q⟩
  | many is =>
    cases e <;> try (cases h; done)
    rename_i es k p
    simp only [chkT, Bool.and_eq_true, decide_eq_true_eq] at h
    exact ⟨es, k, p, rfl, stores_zip hN h.1 h.2⟩
theorem compL_len {tg : Tg} {cf ef : Env → Rs D} : ∀ {xs : List D} {δ : Env} {ys : List D}, compL tg cf ef xs δ = .ok ys → ys.length ≤ xs.length
  | [], δ, ys, h => by cases h; exact Nat.le_refl _
  | x :: xs, δ, ys, h => by
    simp only [compL] at h
    obtain ⟨δ', h1, h⟩ := Rs.bind_ok h
    obtain ⟨b, h2, h⟩ := Rs.bind_ok h
    split at h
    · obtain ⟨y, h3, h⟩ := Rs.bind_ok h
      obtain ⟨r, h4, h⟩ := Rs.bind_ok h
      cases h
      have := compL_len h4
      simp only [List.length_cons]; omega
    · have := compL_len h
      simp only [List.length_cons]; omega
    · cases h
theorem tset1_len {tg : Tg} {d : D} {δ δ' : Env} (h : tset1 tg d δ = .ok δ') : δ'.length = δ.length := by
  cases tg with
  | one i => cases h; simp
  | many is =>
    cases d <;> try (cases h; done)
    all_goals
      simp only [tset1] at h
      split at h
      · cases h
        rename_i ds _
        generalize is.zip ds = l
        induction l generalizing δ with
        | nil => rfl
        | cons p l ih => rw [List.foldl_cons, ih]; simp
      · cases h
theorem lc_core {X : Cx} {G : Wh} {M : Mn} {c : Cn} {S : List Nat} {tg : Tg} {k : Ox} {e : Ex} (o : Ok X G M c) (n4 : ∀ i ∈ tg.slots, i ∉ S) (n3 : nb c S e = true) {σ : L2.St} {H H9 : Hp} {Q : VK} {E : Ev} {B : Hp} {δ : Env} {xs ys : List D} (j : J G S E B σ H δ)
    (f2 : compL tg (evc M k) (ev M e) xs (wipeD δ tg.slots) = .ok ys) (hz : ys.length ≤ sizeLine) (q : ∀ Dn H' acc, Same H H' → H Dn = none → H' Dn = some (.lst acc) → Reps G (fun a => OS S E σ a ∨ a = Dn) H' acc ys → Q (.ref Dn) H') {T : It} {H1 : Hp} (s1 : Same H H1) (wk : Wk G (OS S E σ) H1 T xs) :
    tLcW X (fun _ _ R => R T H1) (rG G S tg) (rT G S (evc M k)) (rE G S (md c S e) (ev M e)) ((own c tg.slots).map (·.2)) σ H9 Q := by
  intro Dn hD
  rw [own_slots]
  obtain ⟨jw, ow⟩ := j.wipe (vs := tg.slots) n4
  have hD0 : H Dn = none := s1.free hD
  refine ⟨fun i m Hc => m = xs.length - i ∧ i ≤ xs.length ∧ ∃ acc accD rest, Hc Dn = some (.lst acc) ∧ Reps G (fun a => OS S E σ a ∨ a = Dn) Hc acc accD ∧ compL tg (evc M k) (ev M e) (xs.drop i) (wipeD δ tg.slots) = .ok rest ∧ accD ++ rest = ys ∧ Same H1 Hc,
    ⟨xs.length, by simp, Nat.zero_le _, [], [], ys, upd_same, .nil, by simpa using f2, rfl, same_new hD⟩, ?_⟩
  rintro i m Hc ⟨rfl, hil, acc, accD, rest, hc, racc, hrest, hys, sc⟩
  refine ⟨o.warm (j.same (s1.trans sc)), ?_⟩
  have hO1 : Ext (OS S E σ) H1 (fun a => OS S E σ a ∨ a = Dn) Hc := fun a u e n => ⟨sc a u e, fun z => by
    rcases z with z | rfl
    · exact n z
    · rw [hD] at e; cases e⟩
  have tO1 : Trk (fun a => OS S E σ a ∨ a = Dn) Hc := fun a z => by
    rcases z with z | rfl
    · exact (j.trk.same (s1.trans sc)) a z
    · exact ⟨_, hc, rfl⟩
  by_cases hlt : i < xs.length
  · obtain ⟨hgo, hyld⟩ := wk.go i xs[i] Hc _ hO1 tO1 (List.getElem?_eq_getElem hlt)
    refine .inr ⟨hgo, fun Hn => i + 1 ≤ xs.length ∧ ∃ acc accD rest, Hn Dn = some (.lst acc) ∧ Reps G (fun a => OS S E σ a ∨ a = Dn) Hn acc accD ∧ compL tg (evc M k) (ev M e) (xs.drop (i + 1)) (wipeD δ tg.slots) = .ok rest ∧ accD ++ rest = ys ∧ Same H1 Hn,
      fun H' w => ⟨xs.length - (i + 1), by omega, rfl, w⟩, fun x H' y => ?_⟩
    obtain ⟨s2, rx⟩ := hyld x H' y
    rw [List.drop_eq_getElem_cons hlt] at hrest
    simp only [compL] at hrest
    obtain ⟨δ', g1, hrest⟩ := Rs.bind_ok hrest
    obtain ⟨b, g2, hrest⟩ := Rs.bind_ok hrest
    have sH' : Same H H' := (s1.trans sc).trans s2
    have jE : J G S { E with own := fun a => E.own a ∨ a = Dn } B (wipe σ tg.slots) H' (wipeD δ tg.slots) := by
      refine jw.moreE (fun a z => ?_) (fun a z => .inl z) sH' fun a z => ?_
      · rcases z with z | rfl
        · exact .inl z
        · exact .inr hD0
      · rcases z with z | rfl
        · exact (j.ex.same sH') a z
        · exact ⟨_, s2 _ _ hc, rfl⟩
    have eO : OS S { E with own := fun a => E.own a ∨ a = Dn } (wipe σ tg.slots) = fun a => OS S E σ a ∨ a = Dn := by
      rw [← ow]
      funext a
      exact propext ⟨fun z => by
        rcases z with (z | z) | z
        · exact .inl (.inl z)
        · exact .inr z
        · exact .inl (.inr z), fun z => by
        rcases z with (z | z) | z
        · exact .inl (.inl z)
        · exact .inr z
        · exact .inl (.inr z)⟩
    refine ⟨_, B, _, xs[i], δ', jE, by rw [eO]; exact rx, g1, fun σ2 j2 ag eO2 => ⟨?_, ?_⟩⟩
    · have hl2 : σ2.length = (wipe σ tg.slots).length := by
        have h1 := j2.len
        have h2 := jE.len
        have h3 : δ'.length = (wipeD δ tg.slots).length := tset1_len g1
        rw [h1, h3, ← h2]
      rw [wipe_same hl2 ag]
      apply List.ext_getElem?
      intro m
      by_cases hm : m ∈ tg.slots
      · by_cases hb : m < σ.length
        · rw [wipe_get hm (by rw [wipe_length]; exact hb), wipe_get hm hb]
        · rw [List.getElem?_eq_none (by rw [wipe_length, wipe_length]; omega), List.getElem?_eq_none (by rw [wipe_length]; omega)]
      · rw [wipe_out hm]
    · rw [eO] at eO2
      split at hrest
      · obtain ⟨y', g3, hrest⟩ := Rs.bind_ok hrest
        obtain ⟨rest', g4, hrest⟩ := Rs.bind_ok hrest
        cases hrest
        refine ⟨_, B, δ', true, j2, g2, fun H3 s3 => ?_⟩
        refine iteT ⟨_, B, δ', y', j2.same s3, g3, fun v H4 s4 o4 => ?_⟩
        have rv := o4.f (j2.same s3).trk (nb_of n3)
        rw [eO2] at rv
        have sc4 : Same Hc H4 := (s2.trans s3).trans s4
        have hl : acc.length < sizeLine := by
          rw [racc.length]
          have : (accD ++ y' :: rest').length ≤ sizeLine := by rw [hys]; exact hz
          rw [List.length_append, List.length_cons] at this
          omega
        refine ⟨acc, sc4 _ _ hc, hl, hlt, acc ++ [v], accD ++ [y'], rest', upd_same, ?_, g4, by rw [List.append_assoc]; exact hys, fun a u e => ?_⟩
        · have x1 : Ext (fun a => OS S E σ a ∨ a = Dn) Hc (fun a => OS S E σ a ∨ a = Dn) (upd H4 Dn (.lst (acc ++ [v]))) := fun a u e n => ⟨by rw [upd_ne fun z => n (.inr z)]; exact sc4 a u e, n⟩
          have x2 : Ext (fun a => OS S E σ a ∨ a = Dn) H4 (fun a => OS S E σ a ∨ a = Dn) (upd H4 Dn (.lst (acc ++ [v]))) := fun a u e n => ⟨by rw [upd_ne fun z => n (.inr z)]; exact e, n⟩
          exact (racc.ext x1).append (.cons (rv.ext x2) .nil)
        · have : a ≠ Dn := fun z => by rw [z, hD] at e; cases e
          rw [upd_ne this]
          exact sc4 a u (sc a u e)
      · refine ⟨_, B, δ', false, j2, g2, fun H3 s3 => ?_⟩
        exact iteF ⟨hlt, acc, accD, rest, (s2.trans s3) _ _ hc, racc.same (s2.trans s3), hrest, hys, sc.trans (s2.trans s3)⟩
      · cases hrest
  · have hi' : i = xs.length := by omega
    subst hi'
    refine .inl ⟨wk.stop _ Hc _ hO1 tO1 (Nat.le_refl _), ?_⟩
    rw [List.drop_length] at hrest
    cases hrest
    rw [List.append_nil] at hys
    subst hys
    exact q _ Hc _ (s1.trans sc) hD0 hc racc
theorem lc_read {X : Cx} {G : Wh} {M : Mn} {c : Cn} {S : List Nat} {tg : Tg} {sr : Sr} {k : Ox} {e : Ex} (o : Ok X G M c) (n4 : ∀ i ∈ tg.slots, i ∉ S) (n3 : nb c S e = true) {σ : L2.St} {H : Hp} {Q : VK} (h : rE G S .new (ev M (.lc tg sr k e)) σ H Q) :
    tLcW X (rI G S (evr M sr)) (rG G S tg) (rT G S (evc M k)) (rE G S (md c S e) (ev M e)) ((own c tg.slots).map (·.2)) σ H Q := by
  obtain ⟨E, B, δ, d, j, hf, q⟩ := h
  simp only [ev] at hf
  obtain ⟨xs, f1, hf⟩ := Rs.bind_ok hf
  obtain ⟨ys, f2, hf⟩ := Rs.bind_ok hf
  split at hf
  · rename_i hz
    cases hf
    exact ⟨E, B, δ, xs, j, f1, fun T H1 s1 wk => lc_core (H9 := H) o n4 n3 j f2 hz (fun Dn H' acc s2 h0 hc r => q _ H' s2 (new_own h0 (.mkL hc rfl (trk_one hc rfl) r))) s1 wk⟩
  · cases hf
/-- [[] for ..]: new lists in a new list -/
theorem nls_read {X : Cx} {G : Wh} {M : Mn} {c : Cn} {S : List Nat} {tg : Tg} {sr : Sr} (o : Ok X G M c) (n4 : ∀ i ∈ tg.slots, i ∉ S) {σ : L2.St} {H : Hp} {Q : VK} (h : rE G S .new (ev M (.nls tg sr)) σ H Q) :
    tLcW X (rI G S (evr M sr)) (rG G S tg) (rT G S (evc M .no)) (rE G S .new (ev M (.lst .nil))) ((own c tg.slots).map (·.2)) σ H Q := by
  obtain ⟨E, B, δ, d, j, hf, q⟩ := h
  simp only [ev] at hf
  obtain ⟨xs, f1, hf⟩ := Rs.bind_ok hf
  obtain ⟨ys, f2, hf⟩ := Rs.bind_ok hf
  split at hf
  · rename_i hz
    cases hf
    refine ⟨E, B, δ, xs, j, f1, fun T H1 s1 wk => fun Dn hD => ?_⟩
    rw [own_slots]
    obtain ⟨jw, ow⟩ := j.wipe (vs := tg.slots) n4
    have hD0 : H Dn = none := s1.free hD
    refine ⟨fun i m Hc => m = xs.length - i ∧ i ≤ xs.length ∧ ∃ (qs : List Addr) (rest : List D), Hc Dn = some (.lst (qs.map V.ref)) ∧ qs.Nodup ∧ (∀ a ∈ qs, a ≠ Dn ∧ H1 a = none ∧ Hc a = some (.lst [])) ∧ compL tg (fun _ => .ok (.bl true)) (fun _ => .ok (.lst [])) (xs.drop i) (wipeD δ tg.slots) = .ok rest ∧ (qs.map fun _ => D.lst []) ++ rest = ys ∧ Same H1 Hc,
      ⟨xs.length, by simp, Nat.zero_le _, [], ys, upd_same, .nil, by simp, by simpa using f2, rfl, same_new hD⟩, ?_⟩
    rintro i m Hc ⟨rfl, hil, qs, rest, hc, nd, hq, hrest, hys, sc⟩
    refine ⟨o.warm (j.same (s1.trans sc)), ?_⟩
    have hO1 : Ext (OS S E σ) H1 (fun a => OS S E σ a ∨ a = Dn) Hc := fun a u e n => ⟨sc a u e, fun z => by
      rcases z with z | rfl
      · exact n z
      · rw [hD] at e; cases e⟩
    have tO1 : Trk (fun a => OS S E σ a ∨ a = Dn) Hc := fun a z => by
      rcases z with z | rfl
      · exact (j.trk.same (s1.trans sc)) a z
      · exact ⟨_, hc, rfl⟩
    by_cases hlt : i < xs.length
    · obtain ⟨hgo, hyld⟩ := wk.go i xs[i] Hc _ hO1 tO1 (List.getElem?_eq_getElem hlt)
      refine .inr ⟨hgo, fun Hn => i + 1 ≤ xs.length ∧ ∃ (qs : List Addr) (rest : List D), Hn Dn = some (.lst (qs.map V.ref)) ∧ qs.Nodup ∧ (∀ a ∈ qs, a ≠ Dn ∧ H1 a = none ∧ Hn a = some (.lst [])) ∧ compL tg (fun _ => .ok (.bl true)) (fun _ => .ok (.lst [])) (xs.drop (i + 1)) (wipeD δ tg.slots) = .ok rest ∧ (qs.map fun _ => D.lst []) ++ rest = ys ∧ Same H1 Hn,
        fun H' w => ⟨xs.length - (i + 1), by omega, rfl, w⟩, fun x H' y => ?_⟩
      obtain ⟨s2, rx⟩ := hyld x H' y
      rw [List.drop_eq_getElem_cons hlt] at hrest
      simp only [compL] at hrest
      obtain ⟨δ', g1, hrest⟩ := Rs.bind_ok hrest
      have sH' : Same H H' := (s1.trans sc).trans s2
      have jE : J G S { E with own := fun a => E.own a ∨ a = Dn } B (wipe σ tg.slots) H' (wipeD δ tg.slots) := by
        refine jw.moreE (fun a z => ?_) (fun a z => .inl z) sH' fun a z => ?_
        · rcases z with z | rfl
          · exact .inl z
          · exact .inr hD0
        · rcases z with z | rfl
          · exact (j.ex.same sH') a z
          · exact ⟨_, s2 _ _ hc, rfl⟩
      have eO : OS S { E with own := fun a => E.own a ∨ a = Dn } (wipe σ tg.slots) = fun a => OS S E σ a ∨ a = Dn := by
        rw [← ow]
        funext a
        exact propext ⟨fun z => by
          rcases z with (z | z) | z
          · exact .inl (.inl z)
          · exact .inr z
          · exact .inl (.inr z), fun z => by
          rcases z with (z | z) | z
          · exact .inl (.inl z)
          · exact .inr z
          · exact .inl (.inr z)⟩
      refine ⟨_, B, _, xs[i], δ', jE, by rw [eO]; exact rx, g1, fun σ2 j2 ag eO2 => ⟨?_, ?_⟩⟩
      · have hl2 : σ2.length = (wipe σ tg.slots).length := by
          have h1 := j2.len
          have h2 := jE.len
          have h3 : δ'.length = (wipeD δ tg.slots).length := tset1_len g1
          rw [h1, h3, ← h2]
        rw [wipe_same hl2 ag]
        apply List.ext_getElem?
        intro m
        by_cases hm : m ∈ tg.slots
        · by_cases hb : m < σ.length
          · rw [wipe_get hm (by rw [wipe_length]; exact hb), wipe_get hm hb]
          · rw [List.getElem?_eq_none (by rw [wipe_length, wipe_length]; omega), List.getElem?_eq_none (by rw [wipe_length]; omega)]
        · rw [wipe_out hm]
      · obtain ⟨b, g2, hrest⟩ := Rs.bind_ok hrest
        cases g2
        obtain ⟨y', g3, hrest⟩ := Rs.bind_ok hrest
        cases g3
        obtain ⟨rest', g4, hrest⟩ := Rs.bind_ok hrest
        cases hrest
        refine ⟨_, B, δ', true, j2, rfl, fun H3 s3 => ?_⟩
        refine iteT ⟨_, B, δ', .lst [], j2.same s3, rfl, fun v H4 s4 o4 => ?_⟩
        rcases o4 with ⟨p, F, rfl, hp, ow4⟩ | ⟨hm, _⟩
        · obtain ⟨zs, hz4, rz⟩ := ow4.lst
          have hzs : zs = [] := List.eq_nil_of_length_eq_zero rz.length
          subst hzs
          have hp3 : H3 p = none := hp p ow4.1
          have sc3 : Same Hc H3 := s2.trans s3
          have sc4 : Same Hc H4 := sc3.trans s4
          have np : p ≠ Dn := fun z => by rw [z, sc3 _ _ hc] at hp3; cases hp3
          have nq : p ∉ qs := fun z => by rw [sc3 _ _ (hq p z).2.2] at hp3; cases hp3
          have p1 : H1 p = none := (sc.trans sc3).free hp3
          have hl : (qs.map V.ref).length < sizeLine := by
            have : ((qs.map fun _ => D.lst []) ++ (D.lst [] :: rest')).length ≤ sizeLine := by rw [hys]; exact hz
            rw [List.length_append, List.length_cons, List.length_map] at this
            rw [List.length_map]
            omega
          refine ⟨qs.map V.ref, sc4 _ _ hc, hl, hlt, qs ++ [p], rest', by rw [List.map_append]; exact upd_same, ?_, fun a ha => ?_, g4, by rw [List.map_append, List.append_assoc]; exact hys, fun a u e => ?_⟩
          · rw [List.nodup_append]
            exact ⟨nd, by simp, fun a ha b hb => by rw [List.mem_singleton.mp hb]; exact fun z => nq (z ▸ ha)⟩
          · rcases List.mem_append.mp ha with ha | ha
            · obtain ⟨a1, a2, a3⟩ := hq a ha
              exact ⟨a1, a2, by rw [upd_ne a1]; exact sc4 _ _ a3⟩
            · rw [List.mem_singleton] at ha
              subst ha
              exact ⟨np, p1, by rw [upd_ne np]; exact hz4⟩
          · have : a ≠ Dn := fun z => by rw [z, hD] at e; cases e
            rw [upd_ne this]
            exact sc4 a u (sc a u e)
        · cases hm
    · have hi' : i = xs.length := by omega
      subst hi'
      refine .inl ⟨wk.stop _ Hc _ hO1 tO1 (Nat.le_refl _), ?_⟩
      rw [List.drop_length] at hrest
      cases hrest
      rw [List.append_nil] at hys
      refine q _ Hc (s1.trans sc) (.inl ⟨Dn, fun a => a = Dn ∨ a ∈ qs, rfl, fun a z => ?_, .inl rfl, fun a z => ?_, .inr (.inr (.inr (.inl ⟨qs, qs.map fun _ => [], by rw [← hys, List.map_map]; rfl, hc, nd, by simp, fun k a ds e1 e2 => ?_⟩)))⟩)
      · rcases z with rfl | z
        · exact hD0
        · exact s1.free (hq a z).2.1
      · rcases z with rfl | z
        · exact ⟨_, hc, rfl⟩
        · exact ⟨_, (hq a z).2.2, rfl⟩
      · have ha := List.mem_of_getElem? e1
        rw [List.getElem?_map, e1] at e2
        cases e2
        exact ⟨(hq a ha).1, .inr ha, [], (hq a ha).2.2, .nil⟩
  · cases hf
theorem _root_.L2.PTs.imp {X : Cx} {e : List Expr} {t t' : TT} (h : PTs X e t) (w : ∀ σ H Q, t' σ H Q → t σ H Q) : PTs X e t' := ⟨fun pins s σ H Q I hw => h.run pins s σ H Q I (w σ H Q hw)⟩
theorem no_if {X : Cx} {G : Wh} {M : Mn} {S : List Nat} : PTs X [] (rT G S (evc M .no)) := pts_nil.imp fun σ H Q ⟨E, B, δ, i, j, hf, k⟩ => by cases hf; exact k H (Same.refl H)
theorem snd_emp {X : Cx} {G : Wh} {M : Mn} {c : Cn} {S : List Nat} {pl : Pos} : Snd X G M c S (.lst .nil) (.List [] pl) := snd_lst snd_nil rfl
theorem snd_nls {X : Cx} {G : Wh} {M : Mn} {c : Cn} {S : List Nat} {tg : Tg} {sr : Sr} {t it : Expr} {scope : Scope} {pos pl : Pos} (o : Ok X G M c)
    (hi : PIB X t it (rI G S (evr M sr))) (n1 : noSet it = true) (n2 : blkC c.N X.env.scope scope (own c tg.slots) = true) (n4 : ∀ i ∈ tg.slots, i ∉ S) (n5 : chkT c (relS scope X.env.scope) tg t = true) :
    PE X (.ListComp (.List [] pl) [⟨t, it, [], 0⟩] scope pos) (rE G S .new (ev M (.nls tg sr))) := by
  have hb : BlkOk X.N X.env.scope scope (own c tg.slots) := blkOk_by (by rw [o.N]; exact n2)
  refine (lc_val (own := own c tg.slots) (by rw [o.N]; exact o.nd) hi hb (g := rG G S tg) (fun s H C cl fp => pg_all o.K (by rw [o.N]; exact o.nd) (o.blk (s := s) (H := H) (scope := scope) (env := compEnvC scope cl C X.env) (fp := fp)).warm (store_T (c := c) (X := X.blk s H scope (compEnvC scope cl C X.env) fp) o.N n5) n4) (fun s H C cl fp => no_if) (fun s H C cl fp => (snd_emp (c := c)).pe) (noFold n1)).imp fun σ H Q h => nls_read o n4 h
theorem snd_lc {X : Cx} {G : Wh} {M : Mn} {c : Cn} {S : List Nat} {tg : Tg} {sr : Sr} {k : Ox} {e : Ex} {elt t it : Expr} {ifs : List Expr} {scope : Scope} {pos : Pos} (o : Ok X G M c)
    (hi : PIB X t it (rI G S (evr M sr))) (n1 : noSet it = true) (n2 : blkC c.N X.env.scope scope (own c tg.slots) = true) (n4 : ∀ i ∈ tg.slots, i ∉ S) (n3 : nb c S e = true)
    (n5 : chkT c (relS scope X.env.scope) tg t = true)
    (ht : ∀ (s : Shared) (H : Hp) (C : Addr) (cl : List (Str × Addr)) (fp : List Addr), PTs (X.blk s H scope (compEnvC scope cl C X.env) fp) ifs (rT G S (evc M k)))
    (he : ∀ (s : Shared) (H : Hp) (C : Addr) (cl : List (Str × Addr)) (fp : List Addr), Snd (X.blk s H scope (compEnvC scope cl C X.env) fp) G M c S e elt) :
    PE X (.ListComp elt [⟨t, it, ifs, 0⟩] scope pos) (rE G S .new (ev M (.lc tg sr k e))) := by
  have hb : BlkOk X.N X.env.scope scope (own c tg.slots) := blkOk_by (by rw [o.N]; exact n2)
  refine (lc_val (own := own c tg.slots) (by rw [o.N]; exact o.nd) hi hb (g := rG G S tg) (fun s H C cl fp => pg_all o.K (by rw [o.N]; exact o.nd) (o.blk (s := s) (H := H) (scope := scope) (env := compEnvC scope cl C X.env) (fp := fp)).warm (store_T (c := c) (X := X.blk s H scope (compEnvC scope cl C X.env) fp) o.N n5) n4) ht (fun s H C cl fp => (he s H C cl fp).pe) (noFold n1)).imp fun σ H Q h => lc_read o n4 n3 h
theorem _root_.L2.PS.imp {X : Cx} {e : Stmt} {t t' : TS} (h : PS X e t) (w : ∀ D σ H, t' D σ H → t D σ H) : PS X e t' := ⟨fun pins s σ H D I hw => h.run pins s σ H D I (w D σ H hw)⟩
theorem _root_.L2.PSs.imp {X : Cx} {e : List Stmt} {t t' : TS} (h : PSs X e t) (w : ∀ D σ H, t' D σ H → t D σ H) : PSs X e t' := ⟨fun pins s σ H D I hw => h.run pins s σ H D I (w D σ H hw)⟩
theorem set_lc {X : Cx} {i : Nat} {y : Str} {py spos : Pos} {G : Wh} {M : Mn} {c : Cn} {S : List Nat} {tg : Tg} {sr : Sr} {k : Ox} {e : Ex} {elt t it : Expr} {ifs : List Expr} {scope : Scope} {pos : Pos} (o : Ok X G M c) (hy : c.N[i]? = some y) (hyl : X.env.scope.names.lookup y = some .local) (hsw : swapsWith (.ListComp elt [⟨t, it, ifs, 0⟩] scope pos) (some (.Name y py)) spos.line X.env = pure true)
    (hi : PIB X t it (rI G S (evr M sr))) (n1 : noSet it = true) (n2 : blkC c.N X.env.scope scope (own c tg.slots) = true) (n4 : ∀ i ∈ tg.slots, i ∉ S) (n3 : nb c S e = true)
    (n5 : chkT c (relS scope X.env.scope) tg t = true)
    (ht : ∀ (s : Shared) (H : Hp) (C : Addr) (cl : List (Str × Addr)) (fp : List Addr), PTs (X.blk s H scope (compEnvC scope cl C X.env) fp) ifs (rT G S (evc M k)))
    (he : ∀ (s : Shared) (H : Hp) (C : Addr) (cl : List (Str × Addr)) (fp : List Addr), Snd (X.blk s H scope (compEnvC scope cl C X.env) fp) G M c S e elt) :
    PS X (.Assign [.Name y py] (.ListComp elt [⟨t, it, ifs, 0⟩] scope pos) spos) (tAsg (rE G S .new (ev M (.lc tg sr k e))) (gName i)) := by
  have hb : BlkOk X.N X.env.scope scope (own c tg.slots) := blkOk_by (by rw [o.N]; exact n2)
  refine (lc_set (own := own c tg.slots) (by rw [o.N]; exact o.nd) (by rw [o.N]; exact hy) hyl hsw hi hb (g := rG G S tg) (fun s H C cl fp => pg_all o.K (by rw [o.N]; exact o.nd) (o.blk (s := s) (H := H) (scope := scope) (env := compEnvC scope cl C X.env) (fp := fp)).warm (store_T (c := c) (X := X.blk s H scope (compEnvC scope cl C X.env) fp) o.N n5) n4) ht (fun s H C cl fp => (he s H C cl fp).pe) (noFold n1)).imp fun D σ H h => lc_read o n4 n3 h
theorem set_nls {X : Cx} {i : Nat} {y : Str} {py spos : Pos} {G : Wh} {M : Mn} {c : Cn} {S : List Nat} {tg : Tg} {sr : Sr} {t it : Expr} {scope : Scope} {pos pl : Pos} (o : Ok X G M c) (hy : c.N[i]? = some y) (hyl : X.env.scope.names.lookup y = some .local) (hsw : swapsWith (.ListComp (.List [] pl) [⟨t, it, [], 0⟩] scope pos) (some (.Name y py)) spos.line X.env = pure true)
    (hi : PIB X t it (rI G S (evr M sr))) (n1 : noSet it = true) (n2 : blkC c.N X.env.scope scope (own c tg.slots) = true) (n4 : ∀ i ∈ tg.slots, i ∉ S) (n5 : chkT c (relS scope X.env.scope) tg t = true) :
    PS X (.Assign [.Name y py] (.ListComp (.List [] pl) [⟨t, it, [], 0⟩] scope pos) spos) (tAsg (rE G S .new (ev M (.nls tg sr))) (gName i)) := by
  have hb : BlkOk X.N X.env.scope scope (own c tg.slots) := blkOk_by (by rw [o.N]; exact n2)
  refine (lc_set (own := own c tg.slots) (by rw [o.N]; exact o.nd) (by rw [o.N]; exact hy) hyl hsw hi hb (g := rG G S tg) (fun s H C cl fp => pg_all o.K (by rw [o.N]; exact o.nd) (o.blk (s := s) (H := H) (scope := scope) (env := compEnvC scope cl C X.env) (fp := fp)).warm (store_T (c := c) (X := X.blk s H scope (compEnvC scope cl C X.env) fp) o.N n5) n4) (fun s H C cl fp => no_if) (fun s H C cl fp => (snd_emp (c := c)).pe) (noFold n1)).imp fun D σ H h => nls_read o n4 h
end PV
set_option maxHeartbeats 2000000
namespace PV
open PySem PySem.Spec PyProof.Rows L2

/-! ### what holds no list -/
section
variable {G : Wd} {O O' : Addr → Prop} {H H' : Hp}
theorem Rep.atom {v : V} {d : D} (h : Rep G O H v d) (e : atomD d = true) : Rep G O' H' v d := by
  cases h <;> first | exact .non | exact .bl _ | exact .int _ | exact .str _ | cases e
theorem reps_atom : ∀ {vs : List V} {ds : List D}, Reps G O H vs ds → ds.all atomD = true → Reps G O' H' vs ds
  | _, _, .nil, _ => .nil
  | _, _, .cons h r, e => by
    rw [List.all_cons, Bool.and_eq_true] at e
    exact .cons (h.atom e.1) (reps_atom r e.2)
theorem Rep.tupA {v : V} {d : D} (h : Rep G O H v d) (e : tupD d = true) (k : ∀ a xs, Rd H a (.tup xs) → Rd H' a (.tup xs) ∧ ¬ O' a) : Rep G O' H' v d := by
  cases h with
  | tupH r n q => exact .tupH (k _ _ r).1 (k _ _ r).2 (reps_atom q (by rw [tupD] at e; exact e))
  | tupK r q => exact .tupK r (reps_atom q (by rw [tupD] at e; exact e))
  | _ => exact Bool.noConfusion e
theorem reps_flat : ∀ {vs : List V} {ds : List D}, Reps G O H vs ds → ds.all tupD = true → (∀ a xs, Rd H a (.tup xs) → Rd H' a (.tup xs) ∧ ¬ O' a) → Reps G O' H' vs ds
  | _, _, .nil, _, _ => .nil
  | _, _, .cons h r, e, k => by
    rw [List.all_cons, Bool.and_eq_true] at e
    exact .cons (h.tupA e.1 k) (reps_flat r e.2 k)
/-- the inner lists are walked -/
theorem wk_nv {F : Addr → Prop} {O0 : Addr → Prop} {p : Addr} {o : Obj} {xs : List NE} {kvs : List (D × List D)} (L : InnD G O0 F H p xs kvs) (hp : ¬ O p) (hp0 : O0 p) (hF : ∀ a, F a → ¬ O a) (hO : ∀ a, O a → O0 a) :
    Wk G O (upd H p (.frz o (DNo G.w p xs))) (Itnv G.w p o xs) (kvs.map fun x => D.lst x.2) := by
  obtain ⟨-, hl, L⟩ := L
  have hpp : upd H p (.frz o (DNo G.w p xs)) p = some (.frz o (DNo G.w p xs)) := upd_same
  refine ⟨fun i d H1 O1 x t e => ?_, fun i H1 O1 x t e => ⟨(x _ _ hpp hp).1, by rw [hl]; rw [List.length_map] at e; exact e⟩⟩
  rw [List.getElem?_map] at e
  obtain ⟨kv, ek, rfl⟩ := Option.map_eq_some_iff.mp e
  obtain ⟨z, ez⟩ : ∃ z, xs[i]? = some z := ⟨_, List.getElem?_eq_getElem (by rw [hl]; exact (List.getElem?_eq_some_iff.mp ek).1)⟩
  obtain ⟨-, -, -, q, ys, e1, nq, fq, hq, rq⟩ := L i z kv ez ek
  refine ⟨⟨(x _ _ hpp hp).1, (List.getElem?_eq_some_iff.mp ez).1⟩, fun v H2 ⟨eh, z', a, ez', ea, ev⟩ => ?_⟩
  rw [ez] at ez'
  cases ez'
  rw [e1] at ea
  cases ea
  subst ev
  rw [eh]
  refine ⟨Same.refl _, ?_⟩
  have x0 : Ext O0 H O1 H1 := fun b u eb nb => by
    refine x b u ?_ fun z => nb (hO b z)
    rw [upd_ne fun z => nb (by rw [z]; exact hp0)]
    exact eb
  have xq := x q (.lst ys) (by rw [upd_ne nq]; exact hq) (hF q fq)
  exact .lst (.inl xq.1) xq.2 (rq.ext x0)
end
theorem vget_ofV {δ : Env} {i : Nat} {d : D} (h : vget δ i = .ok d) : δ[i]? = some (some d) := by
  unfold vget at h
  split at h
  · rename_i q; cases h; exact q
  · cases h
theorem pe_slotV {X : Cx} {G : Wh} {M : Mn} {c : Cn} {S : List Nat} {i : Nat} {x : Str} {p : Pos} (o : Ok X G M c) (h : chkE c X.env.scope S (.var i) (.Name x p) = true) : PE X (.Name x p) (tVar i) := by
  simp only [chkE_var, Bool.and_eq_true, decide_eq_true_eq] at h
  have hp := plainN_of (List.all_eq_true.mp o.nn x (List.mem_of_getElem? h.1))
  exact pe_var (by rw [o.N]; exact h.1) (vis_of h.2) hp.1 hp.2.1
/-- a comprehension over the values of an own dict of lists -/
def vlcE (M : Mn) (i : Nat) (tg : Tg) (e : Ex) : Env → Rs D := fun δ => do
  let d ← vget δ i
  match d with
  | .ndc ds => do
    let ys ← compL tg (evc M .no) (ev M e) (ds.map (·.2)) (wipeD (δ.map fun _ => none) tg.slots)
    if ys.length ≤ sizeLine ∧ ys.all tupD = true then .ok (.lst ys) else .st
  | _ => .st
theorem j_none {G : Wh} {S : List Nat} {E : Ev} {B : Hp} {σ : L2.St} {H : Hp} {δ : Env} {i : Nat} {p : Addr} {o : Obj} {u : HO} (j : J G S E B σ H δ) (hi : i ∈ S) (f : E.fp i p) (hp : H p = some u) :
    J G [] { E with fp := fun _ _ => False, pr := none } B σ (upd H p (.frz o u)) (δ.map fun _ => none) := by
  have np : ¬ E.own p := by
    obtain ⟨_, _, _, _, n, _⟩ := j.ow i hi
    exact n p f
  refine ⟨by rw [List.length_map]; exact j.len, fun m d _ e => ?_, fun m h => absurd h List.not_mem_nil, fun m _ h => absurd h List.not_mem_nil, fun a z => ?_, fun a u' e => ⟨?_, fun z => ?_⟩, fun _ h => (by cases h), fun a e => ?_⟩
  · rw [List.getElem?_map] at e
    obtain ⟨_, _, z⟩ := Option.map_eq_some_iff.mp e
    cases z
  · obtain ⟨u', q, m⟩ := j.ex a z
    have na : a ≠ p := fun c => np (c ▸ z)
    exact ⟨u', by rw [upd_ne na]; exact q, m⟩
  · have b := j.bs a u' e
    have na : a ≠ p := fun c => b.2 ⟨i, hi, c ▸ f⟩
    rw [upd_ne na]
    exact b.1
  · obtain ⟨m, h, _⟩ := z
    exact List.not_mem_nil h
  · obtain ⟨⟨C, dx, q⟩, n⟩ := j.ht a e
    have na : a ≠ p := fun c => n (.inr ⟨i, hi, c ▸ f⟩)
    exact ⟨⟨C, dx, by rw [upd_ne na]; exact q⟩, fun z => n (z.elim .inl fun ⟨m, h, _⟩ => absurd h List.not_mem_nil)⟩
theorem ev_vlcE {M : Mn} {i : Nat} {tg : Tg} {e : Ex} : ev M (.vlc i tg e) = vlcE M i tg e := by
  funext δ
  rfl
theorem vlc_read {X : Cx} {G : Wh} {M : Mn} {c : Cn} {S : List Nat} {i : Nat} {tg : Tg} {e : Ex} (o : Ok X G M c) (hi : i ∈ S) (n3 : nb c [] e = true) {σ : L2.St} {H : Hp} {Q : VK} (h : rE G S .new (vlcE M i tg e) σ H Q) :
    ∃ p u, H p = some u ∧ loose u = true ∧ tLcW X (iNv X.w (tVar i)) (rG G [] tg) (rT G [] (evc M .no)) (rE G [] (md c [] e) (ev M e)) ((own c tg.slots).map (·.2)) σ H (fun v H' => ∃ o', H' p = some (.frz o' u) ∧ Q v (upd H' p u)) := by
  have n4 : ∀ m ∈ tg.slots, m ∉ ([] : List Nat) := fun _ _ h => (List.not_mem_nil h)
  obtain ⟨E, B, δ, d, j, hf, q⟩ := h
  simp only [vlcE] at hf
  obtain ⟨d1, f1, hf⟩ := Rs.bind_ok hf
  obtain ⟨ds, rfl⟩ : ∃ ds, d1 = .ndc ds := by
    cases d1 <;> first | exact ⟨_, rfl⟩ | cases hf
  simp only at hf
  obtain ⟨ys, f2, hf⟩ := Rs.bind_ok hf
  split at hf
  · rename_i hz
    cases hf
    obtain ⟨p, d, e1, e2, nw, ow⟩ := j.ow i hi
    rw [vget_ofV f1] at e2
    cases e2
    obtain ⟨fp, tf, _⟩ := id ow
    obtain ⟨xs, kvs, rfl, hp, L⟩ := ow.ndc
    rw [List.map_map] at f2
    have hv : ∀ z ∈ xs, ∃ a, z.2.2 = .ref a := fun z hz => by
      obtain ⟨m, hm, rfl⟩ := List.getElem_of_mem hz
      obtain ⟨_, _, _, b, _, eb, _⟩ := L.2.2 m _ (kvs[m]'(by rw [← L.2.1]; exact hm)) (List.getElem?_eq_getElem hm) (List.getElem?_eq_getElem _)
      exact ⟨b, eb⟩
    have hO : ∀ a, OS [] { E with fp := fun _ _ => False, pr := none } σ a → OS S E σ a := fun a z => z.elim .inl fun ⟨m, h, _⟩ => absurd h List.not_mem_nil
    have hn : ∀ a, E.fp i a → ¬ OS [] { E with fp := fun _ _ => False, pr := none } σ a := fun a f z => z.elim (nw a f) fun ⟨m, h, _⟩ => absurd h List.not_mem_nil
    have hw : G.w = X.w := o.w
    refine ⟨p, _, hp, rfl, ?_⟩
    refine ⟨.ref p, e1, p, xs, rfl, by rw [← hw]; exact hp, hv, fun o' => ?_⟩
    rw [← hw]
    refine lc_core (Q := fun v H' => ∃ o', H' p = some (.frz o' (DNo G.w p xs)) ∧ Q v (upd H' p (DNo G.w p xs))) (H9 := H) o n4 n3 (j_none (o := o') j hi fp hp) f2 hz.1 (fun Dn H' acc s2 h0 hc r => ⟨o', s2 _ _ upd_same, q _ _ (fun a u ea => ?_) ?_⟩) (Same.refl _) (wk_nv L (hn p fp) (.inr ⟨i, hi, fp⟩) hn hO)
    · by_cases ca : a = p
      · subst ca
        rw [hp] at ea
        cases ea
        exact upd_same
      · rw [upd_ne ca]
        exact s2 _ _ (by rw [upd_ne ca]; exact ea)
    · have nD : Dn ≠ p := fun z => by
        rw [z, upd_same] at h0
        cases h0
      have hD : H Dn = none := by
        rw [upd_ne nD] at h0
        exact h0
      have hc' : upd H' p (DNo G.w p xs) Dn = some (.lst acc) := by rw [upd_ne nD]; exact hc
      refine new_own hD (.mkL hc' rfl (trk_one hc' rfl) (reps_flat r hz.2 fun a zs rd => ?_))
      have ap : a ≠ p := fun z => by
        subst z
        have y := s2 _ _ upd_same
        rcases rd with rd | ⟨_, rd⟩
        · rw [y] at rd; cases rd
        · rw [y] at rd; cases rd
      refine ⟨by rw [Rd, upd_ne ap]; exact rd, fun z => ?_⟩
      rcases z with z | z
      · obtain ⟨u, eu, mu⟩ := j.trk a z
        have y := s2 a u (by rw [upd_ne ap]; exact eu)
        rcases rd with rd | ⟨_, rd⟩
        · rw [y] at rd; cases rd; cases mu
        · rw [y] at rd; cases rd; cases mu
      · subst z
        rcases rd with rd | ⟨_, rd⟩
        · rw [hc] at rd; cases rd
        · rw [hc] at rd; cases rd
  · cases hf
theorem snd_vlc {X : Cx} {G : Wh} {M : Mn} {c : Cn} {S : List Nat} {i : Nat} {tg : Tg} {e : Ex} {elt t : Expr} {x : Str} {px apos p2 : Pos} {scope : Scope} {pos : Pos} (o : Ok X G M c) (hi : i ∈ S) (hx : chkE c X.env.scope S (.var i) (.Name x px) = true)
    (hl : (apos.endLine == p2.line) = true) (hh : c.hot = false) (n2 : blkC c.N X.env.scope scope (own c tg.slots) = true) (n3 : nb c [] e = true) (n5 : chkT c (relS scope X.env.scope) tg t = true)
    (he : ∀ (s : Shared) (H : Hp) (C : Addr) (cl : List (Str × Addr)) (fp : List Addr), Snd (X.blk s H scope (compEnvC scope cl C X.env) fp) G M c [] e elt) :
    PE X (.ListComp elt [⟨t, .Call (.Attribute (.Name x px) "values" apos) [] [] p2, [], 0⟩] scope pos) (rE G S .new (vlcE M i tg e)) := by
  have hb : BlkOk X.N X.env.scope scope (own c tg.slots) := blkOk_by (by rw [o.N]; exact n2)
  have n4 : ∀ m ∈ tg.slots, m ∉ ([] : List Nat) := fun _ _ h => (List.not_mem_nil h)
  have big := lc_val (pos := pos) (own := own c tg.slots) (by rw [o.N]; exact o.nd) (PIB.ofC (o.cm hh) (pi_nvals (tg := t) (pe_slotV o hx) rfl hl)) hb (g := rG G [] tg) (fun s H C cl fp => pg_all o.K (by rw [o.N]; exact o.nd) (o.blk (s := s) (H := H) (scope := scope) (env := compEnvC scope cl C X.env) (fp := fp)).warm (store_T (c := c) (X := X.blk s H scope (compEnvC scope cl C X.env) fp) o.N n5) n4) (fun s H C cl fp => no_if (G := G) (M := M) (S := [])) (fun s H C cl fp => (he s H C cl fp).pe) (noFold rfl)
  refine ⟨fun pins s σ H Q I h => ?_⟩
  obtain ⟨p, u, hp, lu, hq⟩ := vlc_read o hi n3 h
  exact thn (big.run pins s σ H _ I hq) fun w s1 ⟨v, H1, I1, rv, o', h1, q1⟩ => ⟨v, _, Inv.thaw I1 h1 lu (Inv.unfixed I hp lu), rv, q1⟩
theorem set_vlc {X : Cx} {G : Wh} {M : Mn} {c : Cn} {S : List Nat} {i : Nat} {tg : Tg} {e : Ex} {k : Nat} {y : Str} {py spos : Pos} {elt t : Expr} {x : Str} {px apos p2 : Pos} {scope : Scope} {pos : Pos} (o : Ok X G M c) (hy : c.N[k]? = some y) (hyl : X.env.scope.names.lookup y = some .local) (hsw : swapsWith (.ListComp elt [⟨t, .Call (.Attribute (.Name x px) "values" apos) [] [] p2, [], 0⟩] scope pos) (some (.Name y py)) spos.line X.env = pure true) (hi : i ∈ S) (hx : chkE c X.env.scope S (.var i) (.Name x px) = true)
    (hl : (apos.endLine == p2.line) = true) (hh : c.hot = false) (n2 : blkC c.N X.env.scope scope (own c tg.slots) = true) (n3 : nb c [] e = true) (n5 : chkT c (relS scope X.env.scope) tg t = true)
    (he : ∀ (s : Shared) (H : Hp) (C : Addr) (cl : List (Str × Addr)) (fp : List Addr), Snd (X.blk s H scope (compEnvC scope cl C X.env) fp) G M c [] e elt) :
    PS X (.Assign [.Name y py] (.ListComp elt [⟨t, .Call (.Attribute (.Name x px) "values" apos) [] [] p2, [], 0⟩] scope pos) spos) (tAsg (rE G S .new (vlcE M i tg e)) (gName k)) := by
  have hb : BlkOk X.N X.env.scope scope (own c tg.slots) := blkOk_by (by rw [o.N]; exact n2)
  have n4 : ∀ m ∈ tg.slots, m ∉ ([] : List Nat) := fun _ _ h => (List.not_mem_nil h)
  have big := lc_set (own := own c tg.slots) (by rw [o.N]; exact o.nd) (by rw [o.N]; exact hy) hyl hsw (PIB.ofC (o.cm hh) (pi_nvals (tg := t) (pe_slotV o hx) rfl hl)) hb (g := rG G [] tg) (fun s H C cl fp => pg_all o.K (by rw [o.N]; exact o.nd) (o.blk (s := s) (H := H) (scope := scope) (env := compEnvC scope cl C X.env) (fp := fp)).warm (store_T (c := c) (X := X.blk s H scope (compEnvC scope cl C X.env) fp) o.N n5) n4) (fun s H C cl fp => no_if (G := G) (M := M) (S := [])) (fun s H C cl fp => (he s H C cl fp).pe) (noFold rfl)
  refine ⟨fun pins s σ H D I h => ?_⟩
  obtain ⟨p, u, hp, lu, hq⟩ := vlc_read o hi n3 h
  refine thn (big.run pins s σ H { nx := fun s' h' => ∃ o', h' p = some (.frz o' u) ∧ D.nx s' (upd h' p u), bk := fun _ _ => False, ct := fun _ _ => False, rt := fun _ _ => False } I hq) fun f s1 hf => ?_
  cases f with
  | next =>
    obtain ⟨σ1, H1, I1, o', h1, q1⟩ := hf
    exact ⟨σ1, _, Inv.thaw I1 h1 lu (Inv.unfixed I hp lu), q1⟩
  | brk => obtain ⟨_, _, _, z⟩ := hf; exact z.elim
  | cont => obtain ⟨_, _, _, z⟩ := hf; exact z.elim
  | ret w => obtain ⟨_, _, _, _, _, z⟩ := hf; exact z.elim
end PV
set_option maxHeartbeats 4000000
namespace PV
open PySem PySem.Spec PyProof.Rows L2
theorem chkEs_star {c : Cn} {sc : Scope} {S : List Nat} : ∀ {es : Exs} {xs : List Expr}, chkEs c sc S es xs = true → xs.all noStar = true
  | .nil, [], _ => rfl
  | .cons e es, x :: xs, h => by
    simp only [chkEs_cons, Bool.and_eq_true] at h
    rw [List.all_cons, Bool.and_eq_true]
    exact ⟨h.1.2, chkEs_star h.2⟩
  | .nil, _ :: _, h => by cases h
  | .cons _ _, [], h => by cases h
theorem nls_inv {c : Cn} {sc : Scope} {S : List Nat} {tg : Tg} {s : Sr} {x : Expr} (h : chkE c sc S (.nls tg s) x = true) :
    ∃ t it scope p pl, x = .ListComp (.List [] pl) [⟨t, it, [], 0⟩] scope p ∧ chkR c sc S s t it = true ∧ noSet it = true ∧ blkC c.N sc scope (own c tg.slots) = true ∧ chkT c (relS scope sc) tg t = true ∧ (tg.slots.all fun i => decide (i ∉ S)) = true := by
  cases x <;> try (cases h; done)
  rename_i elt gs scope p
  cases elt <;> try (cases h; done)
  rename_i es pl
  rcases es with _ | ⟨_, _⟩ <;> try (cases h; done)
  match gs, h with
  | [⟨t, it, [], 0⟩], h =>
    simp only [chkE_nls, Bool.and_eq_true] at h
    obtain ⟨⟨⟨⟨g1, g2⟩, g3⟩, g4⟩, g5⟩ := h
    exact ⟨t, it, scope, p, pl, rfl, g1, g2, g3, g4, g5⟩
theorem not_hot {b : Bool} (h : (!b) = true) : b = false := by simpa using h
theorem all_slots {l : List Nat} {S : List Nat} (h : (l.all fun i => decide (i ∉ S)) = true) : ∀ i ∈ l, i ∉ S := fun i hi => of_decide_eq_true (List.all_eq_true.mp h i hi)
theorem chkK_cons {c : Cn} {sc : Scope} {S : List Nat} {a : Cst} {ks : List Cst} {x : Option Expr} {xs : List (Option Expr)} (h : chkK (a :: ks) (x :: xs) = true) : ∃ y, x = some y ∧ chkE c sc S (.cst a) y = true ∧ chkK ks xs = true := by
  unfold chkK at h
  split at h
  · cases ‹_ = []›
  · rename_i e1 e2
    cases e1; cases e2
    rw [Bool.and_eq_true] at h
    exact ⟨_, rfl, h.1, h.2⟩
  · rename_i e1 e2
    cases e1; cases e2
    rw [Bool.and_eq_true] at h
    exact ⟨_, rfl, h.1, h.2⟩
  · cases h
theorem chkK_len : ∀ {ks : List Cst} {xs : List (Option Expr)}, chkK ks xs = true → ks.length = xs.length
  | [], [], _ => rfl
  | [], _ :: _, h => by cases h
  | a :: _, [], h => by cases a <;> cases h
  | a :: ks, x :: xs, h => by
    obtain ⟨_, _, _, h'⟩ := chkK_cons (c := { N := [], fn := [], gl := [], bl := [], cs := [], ms := [], ia := [] }) (sc := default) (S := []) h
    simp [chkK_len h']
theorem chkK_some : ∀ {ks : List Cst} {xs : List (Option Expr)}, chkK ks xs = true → xs.all (·.isSome) = true
  | [], [], _ => rfl
  | [], _ :: _, h => by cases h
  | a :: _, [], h => by cases a <;> cases h
  | a :: ks, x :: xs, h => by
    obtain ⟨y, rfl, _, h'⟩ := chkK_cons (c := { N := [], fn := [], gl := [], bl := [], cs := [], ms := [], ia := [] }) (sc := default) (S := []) h
    rw [List.all_cons, chkK_some h']; rfl
section
variable {G : Wh} {M : Mn} {c : Cn}
mutual
theorem sndE : ∀ (e : Ex) {X : Cx} {S : List Nat} {x : Expr}, Ok X G M c → chkE c X.env.scope S e x = true → Snd X G M c S e x
  | .var i, X, S, x, o, h => by
    cases x <;> try (cases h; done)
    exact snd_var o h
  | .cst k, X, S, x, o, h => snd_cst h
  | .glob g, X, S, x, o, h => by
    cases x <;> try (cases h; done)
    exact snd_glob o h
  | .bin op a b, X, S, x, o, h => by
    cases x <;> try (cases h; done)
    simp only [chkE_bin, Bool.and_eq_true, decide_eq_true_eq] at h
    obtain ⟨⟨rfl, h1⟩, h2⟩ := h
    exact snd_bin o (sndE a o h1) (sndE b o h2)
  | .neg a, X, S, x, o, h => by
    cases x <;> try (cases h; done)
    rename_i op y p
    cases op <;> try (cases h; done)
    exact snd_neg (sndE a o h)
  | .not a, X, S, x, o, h => by
    cases x <;> try (cases h; done)
    rename_i op y p
    cases op <;> try (cases h; done)
    simp only [chkE_not, Bool.and_eq_true] at h
    exact snd_not (sndE a o h.1) h.2
  | .and a b, X, S, x, o, h => by
    cases x <;> try (cases h; done)
    rename_i op vs p
    cases op <;> try (cases h; done)
    match vs, h with
    | [y, z], h =>
      simp only [chkE_and, chkE_and2, Bool.and_eq_true] at h
      obtain ⟨⟨⟨⟨h1, h2⟩, h3⟩, h4⟩, h5⟩ := h
      exact snd_and (sndE a o h1) h2 (snd_and1 (sndE b o h3) h4) h5
    | y :: z :: w :: r, h =>
      simp only [chkE_and, chkE_and2, Bool.and_eq_true] at h
      obtain ⟨⟨⟨h1, h2⟩, h3⟩, h5⟩ := h
      have q := sndE b o h3
      exact snd_and (sndE a o h1) h2 ⟨q.pe, q.pw _ _ _ rfl⟩ h5
  | .or a b, X, S, x, o, h => by
    cases x <;> try (cases h; done)
    rename_i op vs p
    cases op <;> try (cases h; done)
    match vs, h with
    | [y, z], h =>
      simp only [chkE_or, chkE_or2, Bool.and_eq_true] at h
      obtain ⟨⟨⟨⟨h1, h2⟩, h3⟩, h4⟩, h5⟩ := h
      exact snd_or (sndE a o h1) h2 (snd_or1 (sndE b o h3) h4) h5
    | y :: z :: w :: r, h =>
      simp only [chkE_or, chkE_or2, Bool.and_eq_true] at h
      obtain ⟨⟨⟨h1, h2⟩, h3⟩, h5⟩ := h
      have q := sndE b o h3
      exact snd_or (sndE a o h1) h2 ⟨q.pe, q.pw _ _ _ rfl⟩ h5
  | .cmp op a b, X, S, x, o, h => by
    cases x <;> try (cases h; done)
    rename_i y ops zs p
    match ops, zs, h with
    | [q], [z], h =>
      simp only [chkE_cmp, Bool.and_eq_true, decide_eq_true_eq] at h
      obtain ⟨⟨⟨rfl, h1⟩, h2⟩, h3⟩ := h
      exact snd_cmp o (sndE a o h1) (sndE b o h2) h3
  | .chain op op' a b d, X, S, x, o, h => by
    cases x <;> try (cases h; done)
    rename_i y ops zs p
    match ops, zs, h with
    | [q, q'], [z, w], h =>
      simp only [chkE_chain, Bool.and_eq_true, decide_eq_true_eq] at h
      obtain ⟨⟨⟨⟨⟨rfl, rfl⟩, h1⟩, h2⟩, h3⟩, h4⟩ := h
      exact snd_chain o (sndE a o h1) (sndE b o h2) (sndE d o h3) h4
  | .ite k a b, X, S, x, o, h => by
    cases x <;> try (cases h; done)
    simp only [chkE_ite, Bool.and_eq_true] at h
    obtain ⟨⟨⟨⟨⟨h1, h2⟩, h3⟩, h4⟩, h5⟩, h6⟩ := h
    exact snd_ite (sndE k o h1) h2 (sndE a o h3) (sndE b o h4) h5 h6
  | .tup es, X, S, x, o, h => by
    cases x <;> try (cases h; done)
    simp only [chkE_tup, Bool.and_eq_true] at h
    exact snd_tup (sndEs es o h.1) h.2
  | .lst es, X, S, x, o, h => by
    cases x <;> try (cases h; done)
    simp only [chkE_lst, Bool.and_eq_true] at h
    exact snd_lst (sndEs es o h.1) h.2
  | .ix a b, X, S, x, o, h => by
    cases x <;> try (cases h; done)
    simp only [chkE_ix, Bool.and_eq_true] at h
    exact snd_ix o (sndE a o h.1.1) (sndE b o h.1.2) h.2
  | .sl a lo hi, X, S, x, o, h => by
    cases x <;> try (cases h; done)
    rename_i y z p
    cases z <;> try (cases h; done)
    rename_i l u st p'
    cases st <;> try (cases h; done)
    simp only [chkE_sl, Bool.and_eq_true] at h
    exact snd_sl o (sndE a o h.1.1) (sndO lo o h.1.2) (sndO hi o h.2)
  | .cal fl f es, X, S, x, o, h => by
    cases x <;> try (cases h; done)
    rename_i fn xs kw p
    cases fn <;> try (cases h; done)
    cases kw <;> try (cases h; done)
    simp only [chkE_cal, Bool.and_eq_true] at h
    obtain ⟨⟨⟨h1, h2⟩, h3⟩, h4⟩ := h
    split at h1
    · rename_i y r hf
      simp only [Bool.and_eq_true, decide_eq_true_eq] at h1
      obtain ⟨⟨⟨rfl, h0⟩, h1⟩, hh⟩ := h1
      exact snd_cal o hf h0 h1 h2 h3 (sndEs es o h4) (chkEs_star h4) (fun e => by
        subst e
        cases es with
        | nil => rfl
        | cons _ _ => cases h4) (by
        rw [Bool.or_eq_true, Bool.and_eq_true, decide_eq_true_eq] at hh
        refine hh.imp not_hot fun z => ⟨z.1, fun e => ?_⟩
        subst e
        exact absurd z.2 (by decide))
    · cases h1
  | .bi b es, X, S, x, o, h => by
    cases x <;> try (cases h; done)
    rename_i fn xs kw p
    cases fn <;> try (cases h; done)
    cases kw <;> try (cases xs <;> cases h; done)
    match xs, h with
    | x0 :: xs, h =>
      simp only [chkE_bi, Bool.and_eq_true, decide_eq_true_eq] at h
      obtain ⟨⟨⟨⟨rfl, h1⟩, h2⟩, h3⟩, hh⟩ := h
      have q := chkEs_star h3
      rw [List.all_cons, Bool.and_eq_true] at q
      rw [Bool.or_eq_true] at hh
      exact snd_bi o h1 h2 (sndEs es o h3) q.1 q.2 (hh.imp not_hot id)
  | .isi a t, X, S, x, o, h => by
    cases x <;> try (cases h; done)
    rename_i fn xs kw p
    cases fn <;> try (cases h; done)
    rcases xs with _ | ⟨y, _ | ⟨w, tl⟩⟩ <;> try (cases h; done)
    cases w <;> try (cases h; done)
    rename_i z p'
    cases tl <;> try (cases h; done)
    cases kw <;> try (cases h; done)
    simp only [chkE_isi, Bool.and_eq_true, decide_eq_true_eq] at h
    obtain ⟨⟨⟨⟨⟨⟨⟨rfl, h1⟩, h2⟩, rfl⟩, h4⟩, h5⟩, h6⟩, h7⟩ := h
    exact snd_isi o h1 h2 h4 h5 (sndE a o h6) h7
  | .inr n e a, X, S, x, o, h => by
    cases x <;> try (cases h; done)
    rename_i y ops zs p
    rcases ops with _ | ⟨q, _ | ⟨_, _⟩⟩ <;> try (cases h; done)
    rcases zs with _ | ⟨w, tl⟩ <;> try (cases h; done)
    cases w <;> try (cases h; done)
    rename_i f2 ys kw2 p2
    cases f2 <;> try (cases h; done)
    rename_i g p1
    rcases ys with _ | ⟨z, _ | ⟨_, _⟩⟩ <;> try (cases h; done)
    cases kw2 <;> try (cases h; done)
    cases tl <;> try (cases h; done)
    simp only [chkE_inr, Bool.and_eq_true, decide_eq_true_eq] at h
    obtain ⟨⟨⟨⟨⟨⟨rfl, h1⟩, rfl⟩, h3⟩, h4⟩, h5⟩, h6⟩ := h
    exact snd_inr o (sndE e o h1) h3 h4 (sndE a o h5) h6
  | .rgA t a, X, S, x, o, h => by
    cases x <;> try (cases h; done)
    rename_i fn xs kw p
    cases fn <;> try (cases h; done)
    rcases xs with _ | ⟨w, tl⟩ <;> try (cases h; done)
    cases w <;> try (cases h; done)
    rename_i f2 ys kw2 p3
    cases f2 <;> try (cases h; done)
    rename_i g p2
    rcases ys with _ | ⟨y, _ | ⟨_, _⟩⟩ <;> try (cases h; done)
    cases kw2 <;> try (cases h; done)
    cases tl <;> try (cases h; done)
    cases kw <;> try (cases h; done)
    simp only [chkE_rgA, Bool.and_eq_true, decide_eq_true_eq] at h
    obtain ⟨⟨⟨⟨⟨⟨⟨⟨rfl, h1⟩, h2⟩, rfl⟩, h4⟩, h5⟩, h6⟩, h7⟩, hh⟩ := h
    exact snd_rgA o h1 h2 h4 h5 (sndE a o h6) h7 (not_hot hh)
  | .rgB t a b, X, S, x, o, h => by
    cases x <;> try (cases h; done)
    rename_i fn xs kw p
    cases fn <;> try (cases h; done)
    rcases xs with _ | ⟨w, tl⟩ <;> try (cases h; done)
    cases w <;> try (cases h; done)
    rename_i f2 ys kw2 p3
    cases f2 <;> try (cases h; done)
    rename_i g p2
    rcases ys with _ | ⟨y, _ | ⟨z, _ | ⟨_, _⟩⟩⟩ <;> try (cases h; done)
    cases kw2 <;> try (cases h; done)
    cases tl <;> try (cases h; done)
    cases kw <;> try (cases h; done)
    simp only [chkE_rgB, Bool.and_eq_true, decide_eq_true_eq] at h
    obtain ⟨⟨⟨⟨⟨⟨⟨⟨⟨⟨rfl, h1⟩, h2⟩, rfl⟩, h4⟩, h5⟩, h6⟩, h7⟩, h8⟩, h9⟩, hh⟩ := h
    exact snd_rgB o h1 h2 h4 h5 (sndE a o h6) h7 (sndE b o h8) h9 (not_hot hh)
  | .dsp ks es, X, S, x, o, h => by
    cases x <;> try (cases h; done)
    rename_i keys vals p
    simp only [chkE_dsp, Bool.and_eq_true, decide_eq_true_eq, Bool.not_eq_true'] at h
    obtain ⟨⟨⟨⟨⟨h1, h2⟩, h3⟩, h4⟩, h5⟩, h6⟩ := h
    have hl := chkK_len h1
    refine snd_dsp (sndPs es o h1 h5 h2) (chkK_some h1) (by omega) (fun z => ?_) (by omega) hl h3
    subst z
    cases ks with
    | nil => cases h6
    | cons _ _ => cases hl
  | .gtd a k d, X, S, x, o, h => by
    cases x <;> try (cases h; done)
    rename_i fn xs kw pos
    cases fn <;> try (cases h; done)
    rename_i ob m apos
    match xs, kw, h with
    | [y, z], [], h =>
      simp only [chkE_gtd, Bool.and_eq_true, decide_eq_true_eq] at h
      obtain ⟨⟨⟨⟨⟨⟨⟨⟨rfl, h1⟩, h0⟩, h2⟩, h3⟩, h4⟩, h5⟩, h6⟩, h7⟩ := h
      exact snd_gtd o (sndE a o h1) h0 (sndE k o h2) (sndE d o h3) h4 h5 h6 h7
  | .tix a e, X, S, x, o, h => by
    cases x <;> try (cases h; done)
    rename_i fn xs kw pos
    cases fn <;> try (cases h; done)
    rename_i ob m' apos
    cases ob <;> try (cases h; done)
    match xs, kw, h with
    | [z], [], h =>
      simp only [chkE_tix, Bool.and_eq_true, decide_eq_true_eq] at h
      obtain ⟨⟨⟨⟨rfl, h1⟩, h2⟩, h3⟩, h4⟩ := h
      exact snd_tix o (sndE a o h1) (sndE e o h2) h3 h4
  | .spt a e, X, S, x, o, h => by
    cases x <;> try (cases h; done)
    rename_i fn xs kw pos
    cases fn <;> try (cases h; done)
    rename_i ob m' apos
    match xs, kw, h with
    | [z], [], h =>
      simp only [chkE_spt, Bool.and_eq_true, decide_eq_true_eq] at h
      obtain ⟨⟨⟨⟨⟨rfl, h1⟩, h0⟩, h2⟩, h3⟩, h4⟩ := h
      exact snd_spt o (sndE a o h1) h0 (sndE e o h2) h3 h4
  | .sw a e, X, S, x, o, h => by
    cases x <;> try (cases h; done)
    rename_i fn xs kw pos
    cases fn <;> try (cases h; done)
    rename_i ob m' apos
    match xs, kw, h with
    | [z], [], h =>
      simp only [chkE_sw, Bool.and_eq_true, decide_eq_true_eq] at h
      obtain ⟨⟨⟨⟨⟨rfl, h1⟩, h0⟩, h2⟩, h3⟩, h4⟩ := h
      exact snd_sw o (sndE a o h1) h0 (sndE e o h2) h3 h4
  | .jn a e, X, S, x, o, h => by
    cases x <;> try (cases h; done)
    rename_i fn xs kw pos
    cases fn <;> try (cases h; done)
    rename_i ob m' apos
    match xs, kw, h with
    | [z], [], h =>
      simp only [chkE_jn, Bool.and_eq_true, decide_eq_true_eq] at h
      obtain ⟨⟨⟨⟨⟨rfl, h1⟩, h0⟩, h2⟩, h3⟩, h4⟩ := h
      exact snd_jn o (sndE a o h1) h0 (sndE e o h2) h3 h4
  | .fmt a, X, S, x, o, h => by
    cases x <;> try (cases h; done)
    rename_i y cv sp pos
    cases sp with
    | some _ => cases h
    | none =>
      simp only [chkE_fmt, Bool.and_eq_true, decide_eq_true_eq] at h
      obtain ⟨rfl, h1⟩ := h
      exact snd_fmt (sndE a o h1)
  | .fs es, X, S, x, o, h => by
    cases x <;> try (cases h; done)
    rename_i xs pos
    simp only [chkE_fs, Bool.and_eq_true, decide_eq_true_eq] at h
    obtain ⟨h1, h2⟩ := h
    obtain ⟨ts, pj, k⟩ := sndJs es o h2
    match xs, h1, pj with
    | v1 :: v2 :: rest, _, pj =>
      refine Snd.of ((pe_joined pj).imp fun σ H Q ⟨E, B, δ, d, j, hf, q⟩ => ?_) (fun _ _ => rfl) (fun _ _ _ z => nomatch z)
      simp only [ev] at hf
      obtain ⟨ds, f1, hf⟩ := Rs.bind_ok hf
      split at hf
      · rename_i s hs
        cases hf
        exact k σ H E B δ ds _ _ _ j f1 hs fun H' s1 => q _ H' s1 (.of_rep (.str _) rfl)
      · cases hf
  | .mk k, X, S, x, o, h => by
    cases x <;> try (cases h; done)
    rename_i fn xs kw pos
    cases fn <;> try (cases h; done)
    match xs, kw, h with
    | [], [], h =>
      simp only [chkE_mk, Bool.and_eq_true, decide_eq_true_eq] at h
      exact snd_mk o h.1.1 h.1.2 h.2
  | .mth a tb m es, X, S, x, o, h => by
    cases x <;> try (cases h; done)
    rename_i fn xs kw pos
    cases fn <;> try (cases h; done)
    rename_i ob m' apos
    cases ob <;> try (cases h; done)
    cases kw <;> try (cases h; done)
    simp only [chkE_mth, Bool.and_eq_true, decide_eq_true_eq, List.all_eq_true] at h
    obtain ⟨⟨⟨⟨⟨⟨⟨rfl, h5⟩, h6⟩, h1⟩, h2⟩, h3⟩, hh⟩, h4⟩ := h
    exact snd_mth o (sndE a o h1) (sndEs es o h2) (chkEs_star h2) h3 (fun e => by
      subst e
      cases es with
      | nil => rfl
      | cons _ _ => cases h2) h5 h6 h4 (not_hot hh)
  | .isc a k tb, X, S, x, o, h => by
    cases x <;> try (cases h; done)
    rename_i fn xs kw p
    cases fn <;> try (cases h; done)
    rcases xs with _ | ⟨y, _ | ⟨w, tl⟩⟩ <;> try (cases h; done)
    cases w <;> try (cases h; done)
    rename_i z p'
    cases tl <;> try (cases h; done)
    cases kw <;> try (cases h; done)
    simp only [chkE_isc, Bool.and_eq_true, decide_eq_true_eq, List.all_eq_true] at h
    obtain ⟨⟨⟨⟨⟨⟨⟨⟨rfl, h1⟩, h2⟩, h3⟩, h4⟩, h5⟩, h6⟩, h7⟩, h8⟩ := h
    exact snd_isc o h1 h2 h3 h4 h5 (sndE a o h6) h7 h8
  | .dspT a b, X, S, x, o, h => by
    cases x <;> try (cases h; done)
    rename_i keys vals p
    match keys, vals, h with
    | [some y], [z], h =>
      simp only [chkE_dspT, Bool.and_eq_true] at h
      obtain ⟨⟨⟨h1, h2⟩, h3⟩, h4⟩ := h
      exact snd_dspT o (sndE a o h1) (sndE b o h2) h3 h4
  | .srtD a, X, S, x, o, h => by
    cases x <;> try (cases h; done)
    rename_i fn xs kw pos
    cases fn <;> try (cases h; done)
    match xs, kw, h with
    | [y], [], h =>
      simp only [chkE_srtD, Bool.and_eq_true, decide_eq_true_eq] at h
      obtain ⟨⟨⟨⟨⟨rfl, h1⟩, h2⟩, h3⟩, h4⟩, hh⟩ := h
      exact snd_srtD o h1 h2 (sndE a o h3) h4 (not_hot hh)
  | .nls tg s, X, S, x, o, h => by
    obtain ⟨t, it, scope, p, pl, rfl, g1, g2, g3, g4, g5⟩ := nls_inv h
    exact Snd.of (snd_nls o (sndR s o g1) g2 g3 (all_slots g5) g4) (fun _ _ => rfl) (fun _ _ _ z => nomatch z)
  | .nix a k, X, S, x, o, h => by
    cases x <;> try (cases h; done)
    simp only [chkE_nix, Bool.and_eq_true] at h
    exact snd_nix o (sndE a o h.1.1) (sndE k o h.1.2) h.2
  | .xf a f cs, X, S, x, o, h => by
    cases x <;> try (cases h; done)
    rename_i y f' p
    cases y <;> try (cases h; done)
    simp only [chkE_xf, Bool.and_eq_true, decide_eq_true_eq, List.all_eq_true] at h
    obtain ⟨⟨⟨rfl, h1⟩, h2⟩, h3⟩ := h
    exact snd_xf o (sndE a o h2) h3
  | .isx a k tb, X, S, x, o, h => by
    cases x <;> try (cases h; done)
    rename_i fn xs kw p
    cases fn <;> try (cases h; done)
    rcases xs with _ | ⟨y, _ | ⟨w, tl⟩⟩ <;> try (cases h; done)
    cases w <;> try (cases h; done)
    rename_i z p'
    cases tl <;> try (cases h; done)
    cases kw <;> try (cases h; done)
    simp only [chkE_isx, Bool.and_eq_true, decide_eq_true_eq] at h
    obtain ⟨⟨⟨⟨⟨⟨rfl, h1⟩, h2⟩, h3⟩, h4⟩, h5⟩, h6⟩ := h
    split at h3
    · rename_i z' jt hz
      simp only [Bool.and_eq_true, decide_eq_true_eq, List.all_eq_true] at h3
      obtain ⟨⟨rfl, h7⟩, h8⟩ := h3
      exact snd_isx o h1 h2 hz h7 h4 (sndE a o h5) h6 h8
    · cases h3
  | .sst a, X, S, x, o, h => by
    cases x <;> try (cases h; done)
    rename_i fn xs kw p
    cases fn <;> try (cases h; done)
    rcases xs with _ | ⟨w, tl⟩ <;> try (cases h; done)
    cases w <;> try (cases h; done)
    rename_i f2 ys kw2 p3
    cases f2 <;> try (cases h; done)
    rename_i g p2
    rcases ys with _ | ⟨y, _ | ⟨_, _⟩⟩ <;> try (cases h; done)
    cases kw2 <;> try (cases h; done)
    cases tl <;> try (cases h; done)
    cases kw <;> try (cases h; done)
    simp only [chkE_sst, Bool.and_eq_true, decide_eq_true_eq] at h
    obtain ⟨⟨⟨⟨⟨⟨⟨⟨rfl, h1⟩, h2⟩, rfl⟩, h4⟩, h5⟩, h6⟩, h7⟩, hh⟩ := h
    exact snd_sst o h1 h2 h4 h5 (sndE a o h6) h7 (not_hot hh)
  | .dnl, X, S, x, o, h => by
    cases x <;> try (cases h; done)
    rename_i keys vals p
    match keys, vals, h with
    | [], [], _ => exact snd_dnl o
  | .nln, X, S, x, o, h => by
    cases x <;> try (cases h; done)
    rename_i xs p
    match xs, h with
    | [], _ => exact snd_nln o
  | .lix a e, X, S, x, o, h => by
    cases x <;> try (cases h; done)
    rename_i fn args kw pos
    cases fn <;> try (cases h; done)
    rename_i y m apos
    rcases args with _ | ⟨z, _ | ⟨_, _⟩⟩ <;> try (cases h; done)
    cases kw <;> try (cases h; done)
    simp only [chkE_lix, Bool.and_eq_true, decide_eq_true_eq] at h
    obtain ⟨⟨⟨⟨⟨rfl, h1⟩, h2⟩, h3⟩, h4⟩, h5⟩ := h
    exact snd_lix o (sndE a o h1) h2 (sndE e o h3) h4 h5
  | .dnw t, X, S, x, o, h => by
    cases x <;> try (cases h; done)
    rename_i keys vals p
    match keys, vals, h with
    | [], [], _ => exact snd_dnw o
  | .gt1 a k, X, S, x, o, h => by
    cases x <;> try (cases h; done)
    rename_i fn xs kw pos
    cases fn <;> try (cases h; done)
    rename_i ob m apos
    match xs, kw, h with
    | [y], [], h =>
      simp only [chkE_gt1, Bool.and_eq_true, decide_eq_true_eq] at h
      obtain ⟨⟨⟨⟨⟨rfl, h1⟩, h0⟩, h2⟩, h3⟩, h4⟩ := h
      exact snd_gt1 o (sndE a o h1) h0 (sndE k o h2) h3 h4
  | .dvl a, X, S, x, o, h => by
    cases x <;> try (cases h; done)
    rename_i fn xs kw pos
    cases fn <;> try (cases h; done)
    rcases xs with _ | ⟨w, tl⟩ <;> try (cases h; done)
    cases w <;> try (cases h; done)
    rename_i f2 ys kw2 p2
    cases f2 <;> try (cases h; done)
    rename_i y m apos
    cases ys <;> try (cases h; done)
    cases kw2 <;> try (cases h; done)
    cases tl <;> try (cases h; done)
    cases kw <;> try (cases h; done)
    simp only [chkE_dvl, Bool.and_eq_true, decide_eq_true_eq] at h
    obtain ⟨⟨⟨⟨⟨⟨⟨rfl, h1⟩, h2⟩, rfl⟩, h3⟩, h4⟩, h5⟩, hh⟩ := h
    exact snd_dvl o h1 h2 (sndE a o h3) h4 h5 (not_hot hh)
  | .stp a k, X, S, x, o, h => by
    cases x <;> try (cases h; done)
    rename_i y sl p
    cases sl <;> try (cases h; done)
    rename_i lo hi st p2
    match lo, hi, st, h with
    | none, none, some z, h =>
      simp only [chkE_stp, Bool.and_eq_true] at h
      exact snd_stp o (sndE a o h.1) (sndE k o h.2)
  | .rpl es k, X, S, x, o, h => by
    cases x <;> try (cases h; done)
    rename_i y op z p
    cases y <;> try (cases h; done)
    simp only [chkE_rpl, Bool.and_eq_true, decide_eq_true_eq] at h
    obtain ⟨⟨⟨rfl, h1⟩, h2⟩, h3⟩ := h
    exact snd_rpl o (sndEs es o h1) h2 (sndE k o h3)
  | .lc tg s k e, X, S, x, o, h => by
    cases x <;> try (cases h; done)
    rename_i elt gs scope p
    match gs, h with
    | [⟨t, it, ifs, 0⟩], h =>
      simp only [chkE_lc, Bool.and_eq_true] at h
      obtain ⟨⟨⟨⟨⟨⟨⟨h1, h2⟩, h3⟩, h4⟩, h5⟩, h6⟩, h7⟩, h8⟩ := h
      exact Snd.of (snd_lc o (sndR s o h1) h2 h3 (all_slots h5) h8 h4 (fun s H C cl fp => sndIf k (X := X.blk s H scope (compEnvC scope cl C X.env) fp) o.blk h6) (fun s H C cl fp => sndE e (X := X.blk s H scope (compEnvC scope cl C X.env) fp) o.blk h7)) (fun _ _ => rfl) (fun _ _ _ z => nomatch z)
  | .vlc i tg e, X, S, x, o, h => by
    cases x <;> try (cases h; done)
    rename_i elt gs scope p
    match gs, h with
    | [⟨t, .Call (.Attribute (.Name x px) m apos) [] [] p2, [], 0⟩], h =>
      simp only [chkE_vlc, Bool.and_eq_true, decide_eq_true_eq] at h
      obtain ⟨⟨⟨⟨⟨⟨⟨⟨⟨rfl, h1⟩, h2⟩, h3⟩, h4⟩, h5⟩, h6⟩, h7⟩, h8⟩, h9⟩ := h
      refine Snd.of ?_ (fun _ _ => rfl) (fun _ _ _ z => nomatch z)
      rw [ev_vlcE]
      exact snd_vlc o h1 (by simp only [chkE_var, Bool.and_eq_true, decide_eq_true_eq]; exact ⟨h2, h3⟩) h4 (not_hot h5) h6 h7 h8 (fun s H C cl fp => sndE e (X := X.blk s H scope (compEnvC scope cl C X.env) fp) o.blk h9)
theorem sndEs : ∀ (es : Exs) {X : Cx} {S : List Nat} {xs : List Expr}, Ok X G M c → chkEs c X.env.scope S es xs = true → PA X xs (rA G S (nbs c S es) (evs M es))
  | .nil, X, S, xs, o, h => by
    cases xs <;> try (cases h; done)
    exact snd_nil
  | .cons e es, X, S, xs, o, h => by
    cases xs <;> try (cases h; done)
    simp only [chkEs_cons, Bool.and_eq_true] at h
    exact snd_cons (sndE e o h.1.1) (sndEs es o h.2) h.1.2
theorem sndJs : ∀ (es : Exs) {X : Cx} {S : List Nat} {xs : List Expr}, Ok X G M c → chkEs c X.env.scope S es xs = true → ∃ ts, PJ X xs ts ∧ ∀ (σ : L2.St) (H : Hp) (E : Ev) (B : Hp) (δ : Env) (ds : List D) (acc out : Str) (Q : Str → Hp → Prop), J G S E B σ H δ → evs M es δ = .ok ds → jnS ds acc = some out → (∀ H', Same H H' → Q out H') → tJs ts acc σ H Q
  | .nil, X, S, xs, o, h => by
    cases xs <;> try (cases h; done)
    refine ⟨[], .nil, fun σ H E B δ ds acc out Q j hf hj k => ?_⟩
    simp only [evs] at hf
    cases hf
    cases hj
    exact k H (Same.refl H)
  | .cons e es, X, S, xs, o, h => by
    cases xs <;> try (cases h; done)
    simp only [chkEs_cons, Bool.and_eq_true] at h
    have he := sndE e o h.1.1
    obtain ⟨ts, pj, kk⟩ := sndJs es o h.2
    refine ⟨_, .cons he.pe pj, fun σ H E B δ ds acc out Q j hf hj k => ?_⟩
    simp only [evs] at hf
    obtain ⟨d1, f1, hf⟩ := Rs.bind_ok hf
    obtain ⟨dr, f2, hf⟩ := Rs.bind_ok hf
    cases hf
    refine ⟨E, B, δ, _, j, f1, fun v1 H1 s1 o1 => ?_⟩
    obtain ⟨y, rfl⟩ : ∃ y, d1 = .str y := by
      cases d1 <;> first | exact ⟨_, rfl⟩ | cases hj
    simp only [jnS] at hj
    split at hj
    · rename_i hz
      exact ⟨y, (o1.b j.trk).str, hz, kk σ H1 E B δ dr _ _ Q (j.same s1) f2 hj fun H' s2 => k H' (s1.trans s2)⟩
    · cases hj
theorem sndPs : ∀ (es : Exs) {X : Cx} {S : List Nat} {ks : List Cst} {keys : List (Option Expr)} {vals : List Expr} {pos : Pos}, Ok X G M c → chkK ks keys = true → ks.length = vals.length → chkEs c X.env.scope S es vals = true → PPs X pos keys vals (trsOf G M c S ks es)
  | .nil, X, S, ks, keys, vals, pos, o, hk, hl, h => by
    cases vals <;> try (cases h; done)
    cases ks with
    | cons _ _ => cases hl
    | nil =>
      cases keys with
      | nil => exact pps_nil
      | cons _ _ => cases hk
  | .cons e es, X, S, ks, keys, vals, pos, o, hk, hl, h => by
    cases vals <;> try (cases h; done)
    simp only [chkEs_cons, Bool.and_eq_true] at h
    cases ks with
    | nil => cases hl
    | cons a ks =>
      cases keys with
      | nil => cases a <;> cases hk
      | cons x keys =>
        obtain ⟨y, rfl, hc, hk'⟩ := chkK_cons (S := S) (c := c) (sc := X.env.scope) hk
        exact pps_cons (snd_cst hc).pe (sndE e o h.1.1).pe (sndPs es o hk' (by simpa using hl) h.2)
theorem sndO : ∀ (e : Ox) {X : Cx} {S : List Nat} {x : Option Expr}, Ok X G M c → chkO c X.env.scope S e x = true → PO X x fun σ H Q => ∃ E B δ i, J G S E B σ H δ ∧ evo M e δ = .ok i ∧ ∀ H', Same H H' → Q i H'
  | .no, X, S, x, o, h => by
    cases x <;> try (cases h; done)
    exact po_none.imp fun σ H Q ⟨E, B, δ, i, j, hf, k⟩ => by cases hf; exact k H (Same.refl H)
  | .yes e, X, S, x, o, h => by
    cases x <;> try (cases h; done)
    refine (po_some (sndE e o h).pe).imp fun σ H Q ⟨E, B, δ, i, j, hf, k⟩ => ?_
    simp only [evo] at hf
    obtain ⟨d, f1, hf⟩ := Rs.bind_ok hf
    cases d <;> try (cases hf; done)
    cases hf
    exact ⟨E, B, δ, _, j, f1, fun v H1 s1 o1 => ⟨_, o1.int j.trk, k H1 s1⟩⟩
theorem sndIf : ∀ (e : Ox) {X : Cx} {S : List Nat} {x : List Expr}, Ok X G M c → chkIf c X.env.scope S e x = true → PTs X x (rT G S (evc M e))
  | .no, X, S, x, o, h => by
    cases x <;> try (cases h; done)
    exact pts_nil.imp fun σ H Q ⟨E, B, δ, i, j, hf, k⟩ => by cases hf; exact k H (Same.refl H)
  | .yes e, X, S, x, o, h => by
    match x, h with
    | [x], h =>
      simp only [chkIf_yes, Bool.and_eq_true] at h
      exact pts_one ((sndE e o h.1).pt h.2)
theorem sndR : ∀ (s : Sr) {X : Cx} {S : List Nat} {t x : Expr}, Ok X G M c → chkR c X.env.scope S s t x = true → PIB X t x (rI G S (evr M s))
  | .val e, X, S, t, x, o, h => by
    simp only [chkR_val, Bool.and_eq_true] at h
    exact snd_val o (sndE e o h.1) h.2
  | .rng1 a, X, S, t, x, o, h => by
    cases x <;> try (cases h; done)
    rename_i fn xs kw p
    cases fn <;> try (cases h; done)
    match xs, kw, h with
    | [y], [], h =>
      simp only [chkR_rng1, Bool.and_eq_true, decide_eq_true_eq] at h
      obtain ⟨⟨⟨⟨⟨rfl, h1⟩, h2⟩, h3⟩, h4⟩, hh⟩ := h
      exact .ofC (o.cm (not_hot hh)) (snd_rng1 o h1 h2 (sndE a o h3) h4)
  | .rng2 a b, X, S, t, x, o, h => by
    cases x <;> try (cases h; done)
    rename_i fn xs kw p
    cases fn <;> try (cases h; done)
    match xs, kw, h with
    | [y, z], [], h =>
      simp only [chkR_rng2, Bool.and_eq_true, decide_eq_true_eq] at h
      obtain ⟨⟨⟨⟨⟨⟨⟨rfl, h1⟩, h2⟩, h3⟩, h4⟩, h5⟩, h6⟩, hh⟩ := h
      exact .ofC (o.cm (not_hot hh)) (snd_rng2 o h1 h2 (sndE a o h3) h4 (sndE b o h5) h6)
  | .rng3 a b k, X, S, t, x, o, h => by
    cases x <;> try (cases h; done)
    rename_i fn xs kw p
    cases fn <;> try (cases h; done)
    rcases xs with _ | ⟨y, _ | ⟨z, _ | ⟨w, tl⟩⟩⟩ <;> try (cases h; done)
    cases w <;> try (cases h; done)
    rename_i q _ _
    cases q <;> try (cases h; done)
    rename_i i
    cases tl <;> try (cases h; done)
    cases kw <;> try (cases h; done)
    simp only [chkR_rng3, Bool.and_eq_true, decide_eq_true_eq] at h
    obtain ⟨⟨⟨⟨⟨⟨⟨⟨rfl, h1⟩, h2⟩, h3⟩, h4⟩, h5⟩, h6⟩, rfl⟩, hh⟩ := h
    exact .ofC (o.cm (not_hot hh)) (snd_rng3 o h1 h2 (sndE a o h3) h4 (sndE b o h5) h6)
  | .enum a, X, S, t, x, o, h => by
    cases t <;> try (cases h; done)
    cases x <;> try (cases h; done)
    rename_i fn xs kw p
    cases fn <;> try (cases h; done)
    match xs, kw, h with
    | [y], [], h =>
      simp only [chkR_enum, Bool.and_eq_true, decide_eq_true_eq] at h
      obtain ⟨⟨⟨⟨⟨⟨rfl, h1⟩, h2⟩, h3⟩, h4⟩, h5⟩, hh⟩ := h
      exact .ofC (o.cm (not_hot hh)) (snd_enum o h1 h2 (sndE a o h3) h4 h5)
  | .zip a b, X, S, t, x, o, h => by
    cases t <;> try (cases h; done)
    cases x <;> try (cases h; done)
    rename_i fn xs kw p
    cases fn <;> try (cases h; done)
    match xs, kw, h with
    | [y, z], [], h =>
      simp only [chkR_zip, Bool.and_eq_true, decide_eq_true_eq] at h
      obtain ⟨⟨⟨⟨⟨⟨⟨⟨⟨rfl, h1⟩, h2⟩, h3⟩, h4⟩, h5⟩, h6⟩, h7⟩, h8⟩, hh⟩ := h
      exact .ofC (o.cm (not_hot hh)) (snd_zip o h1 h2 (sndE a o h3) h4 (sndE b o h5) h6 h7 h8)
  | .vals _, X, S, t, x, o, h => by cases x <;> cases h
end
end
end PV
namespace PV
open PySem PySem.Spec PyProof.Rows L2

/-! ### own ones given up, changed, made -/
/-- the own addresses of slot i are F' -/
def setF (E : Ev) (i : Nat) (F' : Addr → Prop) : Ev := { E with fp := fun k a => if k = i then F' a else E.fp k a }
theorem setF_at {E : Ev} {i : Nat} {F' : Addr → Prop} {a : Addr} : (setF E i F').fp i a = F' a := if_pos rfl
theorem setF_ne {E : Ev} {i k : Nat} {F' : Addr → Prop} {a : Addr} (h : k ≠ i) : (setF E i F').fp k a = E.fp k a := if_neg h
theorem setF_self {E : Ev} {i : Nat} : setF E i (E.fp i) = E := by
  obtain ⟨o, f, p⟩ := E
  unfold setF
  congr 1
  funext k a
  show (if k = i then f i a else f k a) = f k a
  split
  · rename_i h; rw [h]
  · rfl
theorem setF_fp {E : Ev} {i : Nat} {F' : Addr → Prop} : (setF E i F').fp i = F' := by funext a; exact setF_at
theorem setF_fpn {E : Ev} {i k : Nat} {F' : Addr → Prop} (h : k ≠ i) : (setF E i F').fp k = E.fp k := by funext a; exact setF_ne h
theorem Sm.setF {E : Ev} {i : Nat} {F' : Addr → Prop} : Sm E (setF E i F') := ⟨rfl, rfl⟩
section
variable {G : Wh} {S S' : List Nat} {E : Ev} {B : Hp} {σ σ' : L2.St} {H H' : Hp} {δ : Env}
theorem OS_sub (h : ∀ i ∈ S', i ∈ S) {a : Addr} (o : OS S' E σ a) : OS S E σ a := by
  rcases o with o | ⟨i, hi, e⟩
  · exact .inl o
  · exact .inr ⟨i, h i hi, e⟩
theorem J.weak (j : J G S E B σ H δ) (h : ∀ i ∈ S', i ∈ S) : J G S' E B σ H δ := by
  refine ⟨j.len, fun i d hi e => ?_, fun i hi => ?_, fun i k hi hk e => j.dj i k (h i hi) (h k hk) e, j.ex, fun a u e => ⟨(j.bs a u e).1, fun ⟨i, hi, z⟩ => (j.bs a u e).2 ⟨i, h i hi, z⟩⟩, fun p hp h0 => j.pz p hp (h 0 h0), fun a e => ⟨(j.ht a e).1, fun o => (j.ht a e).2 (OS_sub h o)⟩⟩
  · by_cases hS : i ∈ S
    · obtain ⟨p, d', e1, e2, n, r⟩ := j.ow i hS
      rw [e] at e2
      cases e2
      refine ⟨_, e1, (r.less fun a o => OS_sub h o).rep fun a f o => ?_⟩
      rcases o with o | ⟨k, hk, e3⟩
      · exact n a f o
      · exact j.dj i k hS (h k hk) (fun z => hi (z ▸ hk)) a f e3
    · obtain ⟨v, e1, r⟩ := j.fz i d hS e
      exact ⟨v, e1, r.less fun a o => OS_sub h o⟩
  · obtain ⟨p, d, e1, e2, n, r⟩ := j.ow i (h i hi)
    exact ⟨p, d, e1, e2, n, r.less fun a o => OS_sub h o⟩
theorem ext_weak (h : ∀ i ∈ S', i ∈ S) : Ext (OS S E σ) H (OS S' E σ) H := fun a u e n => ⟨e, fun o => n (OS_sub h o)⟩
/-- the own thing of slot i is another one now -/
theorem J.mutG (j : J G S E B σ H δ) {i : Nat} {p : Addr} {F' : Addr → Prop} {d : D} (hi : i ∈ S) (hp : σ[i]? = some (some (.ref p))) (keep : ∀ a u, H a = some u → ¬ E.fp i a → H' a = some u) (hF : ∀ a, F' a → E.fp i a ∨ H a = none)
    (r : Own G (OS S (setF E i F') σ) F' H' p d) : J G S (setF E i F') B σ H' (δ.set i (some d)) ∧ Ext (OS S E σ) H (OS S (setF E i F') σ) H' := by
  have inO : ∀ a, E.fp i a → OS S E σ a := fun a f => .inr ⟨i, hi, f⟩
  have ni : ∀ {k}, k ∈ S → k ≠ i → ∀ a, E.fp k a → ¬ E.fp i a := fun hk hn a f => j.dj _ _ hk hi hn a f
  have x : Ext (OS S E σ) H (OS S (setF E i F') σ) H' := fun a u e n => ⟨keep a u e fun f => n (inO a f), fun o => by
    rcases o with o | ⟨k, hk, o⟩
    · exact n (.inl o)
    · by_cases z : k = i
      · subst z
        rw [setF_at] at o
        rcases hF a o with q | q
        · exact n (inO a q)
        · rw [q] at e; cases e
      · rw [setF_ne z] at o
        exact n (.inr ⟨k, hk, o⟩)⟩
  obtain ⟨p0, d0, e1, e2, n0, r0⟩ := j.ow i hi
  refine ⟨⟨by simp [j.len], fun k e hk he => ?_, fun k hk => ?_, fun k l hk hl hn a => ?_, fun a ha => ?_, fun a u e => ?_, j.pz, fun a e => let ⟨⟨C, dx, q⟩, n⟩ := j.ht a e; ⟨⟨C, dx, (x a _ q n).1⟩, (x a _ q n).2⟩⟩, x⟩
  · have z : i ≠ k := fun z => hk (z ▸ hi)
    rw [List.getElem?_set_ne z] at he
    obtain ⟨v, e1, r1⟩ := j.fz k e hk he
    exact ⟨v, e1, r1.ext x⟩
  · by_cases z : k = i
    · subst z
      have hl : k < δ.length := (List.getElem?_eq_some_iff.mp e2).1
      refine ⟨p, d, hp, by rw [List.getElem?_set_self hl], fun a f o => ?_, by rw [setF_fp]; exact r⟩
      rw [setF_at] at f
      rcases hF a f with q | q
      · exact n0 a q o
      · obtain ⟨u, e, _⟩ := j.ex a o
        rw [q] at e; cases e
    · obtain ⟨p', d', e1, e2, n, r1⟩ := j.ow k hk
      rw [setF_fpn z]
      exact ⟨p', d', e1, by rw [List.getElem?_set_ne (Ne.symm z)]; exact e2, n, r1.ext x fun a u f q => keep a u q (ni hk z a f)⟩
  · have key : ∀ {m : Nat}, m ∈ S → m ≠ i → F' a → ¬ E.fp m a := fun hm hn f g => by
      rcases hF a f with q | q
      · exact j.dj _ _ hm hi hn a g q
      · obtain ⟨_, _, _, _, _, r1⟩ := j.ow _ hm
        obtain ⟨u, e, _⟩ := r1.2.1 a g
        rw [q] at e; cases e
    by_cases z : k = i
    · subst z
      rw [setF_at, setF_ne (Ne.symm hn)]
      exact fun f g => key hl (Ne.symm hn) f g
    · by_cases z' : l = i
      · subst z'
        rw [setF_at, setF_ne z]
        exact fun g f => key hk z f g
      · rw [setF_ne z, setF_ne z']
        exact j.dj k l hk hl hn a
  · obtain ⟨u, e, m⟩ := j.ex a ha
    exact ⟨u, keep a u e fun f => n0 a f ha, m⟩
  · obtain ⟨b1, n1⟩ := j.bs a u e
    refine ⟨keep a u b1 fun f => n1 ⟨i, hi, f⟩, fun ⟨k, hk, f⟩ => ?_⟩
    by_cases z : k = i
    · subst z
      rw [setF_at] at f
      rcases hF a f with q | q
      · exact n1 ⟨k, hk, q⟩
      · rw [q] at b1; cases b1
    · rw [setF_ne z] at f
      exact n1 ⟨k, hk, f⟩
theorem J.mut (j : J G S E B σ H δ) {i : Nat} {p : Addr} {o : HO} {d : D} (hi : i ∈ S) (hp : σ[i]? = some (some (.ref p))) (r : Own G (OS S E σ) (E.fp i) (upd H p o) p d) :
    J G S E B σ (upd H p o) (δ.set i (some d)) ∧ Ext (OS S E σ) H (OS S E σ) (upd H p o) := by
  have q := j.mutG (H' := upd H p o) (F' := E.fp i) (d := d) hi hp (fun a u e n => by rw [upd_ne (fun z : a = p => n (by rw [z]; exact r.1))]; exact e) (fun a f => .inl f) (by rw [setF_self]; exact r)
  rw [setF_self] at q
  exact q
/-- a new own one in slot i (which owned none) -/
theorem J.own (j : J G S E B σ H δ) (s : Same H H') {i : Nat} {p : Addr} {F : Addr → Prop} {d : D} (hi : i ∉ S) (h0 : i ≠ 0) (hl : i < σ.length) (hp : ∀ a, F a → H a = none) (r : Own G (fun a => OS S E σ a ∨ F a) F H' p d) :
    J G (i :: S) (setF E i F) B (σ.set i (some (.ref p))) H' (δ.set i (some d)) ∧ Ext (OS S E σ) H (OS (i :: S) (setF E i F) (σ.set i (some (.ref p)))) H' := by
  have hl' : i < δ.length := by rw [← j.len]; exact hl
  have ne : ∀ {k}, k ∈ S → k ≠ i := fun hk z => hi (z ▸ hk)
  have eO : OS (i :: S) (setF E i F) (σ.set i (some (.ref p))) = fun a => OS S E σ a ∨ F a := by
    funext a
    refine propext ⟨fun o => ?_, fun o => ?_⟩
    · rcases o with o | ⟨k, hk, e⟩
      · exact .inl (.inl o)
      · rcases List.mem_cons.mp hk with q | hk
        · subst q
          rw [setF_at] at e
          exact .inr e
        · rw [setF_ne (ne hk)] at e
          exact .inl (.inr ⟨k, hk, e⟩)
    · rcases o with (o | ⟨k, hk, e⟩) | o
      · exact .inl o
      · exact .inr ⟨k, List.mem_cons_of_mem _ hk, by rw [setF_ne (ne hk)]; exact e⟩
      · exact .inr ⟨i, List.mem_cons_self, by rw [setF_at]; exact o⟩
  have x : Ext (OS S E σ) H (fun a => OS S E σ a ∨ F a) H' := fun a u e n => ⟨s a u e, fun z => by
    rcases z with z | z
    · exact n z
    · rw [hp a z] at e; cases e⟩
  have no : ∀ {k a}, k ∈ S → F a → ¬ E.fp k a := fun {k a} hk f g => by
    obtain ⟨_, _, _, _, _, r1⟩ := j.ow k hk
    obtain ⟨u, e, _⟩ := r1.2.1 a g
    rw [hp a f] at e; cases e
  refine ⟨⟨by simp [j.len], fun k e hk he => ?_, fun k hk => ?_, fun k l hk hl2 hn a => ?_, j.ex.same s, fun a u e => ?_, fun q hq h0' => ?_, fun a e => let ⟨⟨C, dx, q⟩, n⟩ := j.ht a e; ⟨⟨C, dx, s a _ q⟩, by rw [eO]; exact (x a _ q n).2⟩⟩, by rw [eO]; exact x⟩
  · have z : i ≠ k := fun z => hk (z ▸ List.mem_cons_self)
    rw [List.getElem?_set_ne z] at he
    obtain ⟨v, e1, r1⟩ := j.fz k e (fun q => hk (List.mem_cons_of_mem _ q)) he
    rw [eO]
    exact ⟨v, by rw [List.getElem?_set_ne z]; exact e1, r1.ext x⟩
  · rw [eO]
    by_cases z : i = k
    · subst z
      refine ⟨p, d, by rw [List.getElem?_set_self hl], by rw [List.getElem?_set_self hl'], fun a f q => ?_, by rw [setF_fp]; exact r⟩
      rw [setF_at] at f
      obtain ⟨u, e, _⟩ := j.ex a q
      rw [hp a f] at e; cases e
    · have hk' : k ∈ S := by
        rcases List.mem_cons.mp hk with q | hk
        · exact absurd q.symm z
        · exact hk
      obtain ⟨p', d', e1, e2, n, r1⟩ := j.ow k hk'
      rw [setF_fpn (Ne.symm z)]
      exact ⟨p', d', by rw [List.getElem?_set_ne z]; exact e1, by rw [List.getElem?_set_ne z]; exact e2, n, r1.ext x fun a u _ q => s a u q⟩
  · rcases List.mem_cons.mp hk with q | hk3
    · rcases List.mem_cons.mp hl2 with q' | hl3
      · exact absurd (q.trans q'.symm) hn
      · have z := ne hl3
        subst q
        rw [setF_at, setF_ne z]
        exact fun f g => no hl3 f g
    · rcases List.mem_cons.mp hl2 with q' | hl3
      · have z := ne hk3
        subst q'
        rw [setF_at, setF_ne z]
        exact fun g f => no hk3 f g
      · rw [setF_ne (ne hk3), setF_ne (ne hl3)]
        exact j.dj k l hk3 hl3 hn a
  · obtain ⟨e1, n1⟩ := j.bs a u e
    refine ⟨s a u e1, fun ⟨k, hk, z⟩ => ?_⟩
    rcases List.mem_cons.mp hk with w | hk
    · subst w
      rw [setF_at] at z
      rw [hp a z] at e1; cases e1
    · rw [setF_ne (ne hk)] at z
      exact n1 ⟨k, hk, z⟩
  · rcases List.mem_cons.mp h0' with w | w
    · exact absurd w.symm h0
    · rw [List.getElem?_set_ne (ne w |> Ne.symm)]
      exact j.pz q hq w
end
inductive Post where
  | dead | live (S : List Nat)
def subL (S' S : List Nat) : Bool := S'.all fun i => decide (i ∈ S)
theorem subL_of {S' S : List Nat} (h : subL S' S = true) : ∀ i ∈ S', i ∈ S := fun i hi => of_decide_eq_true (List.all_eq_true.mp h i hi)
def Post.join : Post → Post → Post
  | .dead, p => p
  | p, .dead => p
  | .live a, .live b => .live (a.filter fun i => decide (i ∈ b))
/-- the own slots at break and continue, at an exception; what is handed back; what is wished of an exception -/
structure Kx where
  L : List Nat
  XL : List Nat
  ret : Rt
  W : WX
def RtK (r : Rt) (G : Wd) (E : Ev) (B : Hp) (d : D) (Dd : Ends) : Prop := match r with
  | .frz => ∀ v H', Same B H' → RetO false G E.own B H' v d → Dd.rt v H'
  | .new => ∀ v H', Same B H' → RetO true G E.own B H' v d → Dd.rt v H'
  | .chg => ∀ d' d0 p v F' H', d = .tup [d', d0] → (∀ q, E.pr = some q → q = p) → Same B H' → (∀ a, F' a → B a = none ∧ ¬ E.own a) → Own G (fun a => E.own a ∨ F' a) F' H' p d0 → RetM G E.own F' B H' v d' → Dd.rt v H'
/-- what is wanted behind a statement -/
def Kont (G : Wh) (K : Kx) (P : Post) (E : Ev) (B : Hp) (O : Addr → Prop) (H : Hp) (Dd : Ends) : Fl → Prop
  | .nx δ' => ∀ S', P = .live S' → ∀ E' σ' H', Sm E E' → J G S' E' B σ' H' δ' → Ext O H (OS S' E' σ') H' → Dd.nx σ' H'
  | .bk δ' => ∀ E' σ' H', Sm E E' → J G K.L E' B σ' H' δ' → Ext O H (OS K.L E' σ') H' → Dd.bk σ' H'
  | .ct δ' => ∀ E' σ' H', Sm E E' → J G K.L E' B σ' H' δ' → Ext O H (OS K.L E' σ') H' → Dd.ct σ' H'
  | .rt d => RtK K.ret G E B d Dd
  | .er c n δ' => ∀ E' σ' H' dd, Sm E E' → J G K.XL E' B σ' H' δ' → Ext O H (OS K.XL E' σ') H' → ErrO G c n dd H' → ¬ OS K.XL E' σ' dd → B dd = none → K.W (.ref (G.cl c)) (some dd) σ' H'
def rS (G : Wh) (S : List Nat) (K : Kx) (P : Post) (f : Env → Rs Fl) : TS := fun Dd σ H => ∃ E B δ fl, J G S E B σ H δ ∧ f δ = .ok fl ∧ Kont G K P E B (OS S E σ) H Dd fl

theorem Kont.ext {G : Wh} {K : Kx} {P : Post} {E E1 : Ev} {B : Hp} {O O' : Addr → Prop} {H H' : Hp} {Dd : Ends} (m : Sm E E1) (x : Ext O H O' H') : ∀ {fl : Fl}, Kont G K P E B O H Dd fl → Kont G K P E1 B O' H' Dd fl
  | .nx _, k => fun S' e E' σ' H' q j y => k S' e E' σ' H' (m.trans q) j (x.trans y)
  | .bk _, k => fun E' σ' H' q j y => k E' σ' H' (m.trans q) j (x.trans y)
  | .ct _, k => fun E' σ' H' q j y => k E' σ' H' (m.trans q) j (x.trans y)
  | .er _ _ _, k => fun E' σ' H' dd q j y => k E' σ' H' dd (m.trans q) j (x.trans y)
  | .rt d, k => by
    have k' : RtK K.ret G E B d Dd := k
    show RtK K.ret G E1 B d Dd
    unfold RtK at k' ⊢
    rw [m.1, m.2]
    exact k'

/-! ### the check of statements -/
def swapB (sc : Scope) (x : Str) (px : Pos) : Expr → Bool
  | .ListComp _ _ s p => (sc.names.lookup x == some .local) && (px.line == p.line) && !(s.names.any fun (n, k) => n == x && (k == .local || k == .cell))
  | _ => false
def noComp : Expr → Bool
  | .ListComp .. => false
  | .SetComp .. => false
  | .DictComp .. => false
  | _ => true
def noTup : Expr → Bool
  | .Tuple .. => false
  | _ => true
def isNm : Expr → Bool
  | .Name x _ => plainN x
  | _ => false
def stB (c : Cn) (sc : Scope) (i : Nat) (x : Str) : Bool := decide (c.N[i]? = some x) && (match sc.names.lookup x with
  | some .local => true
  | some .cell => true
  | _ => false)
def stsB (c : Cn) (sc : Scope) : List Nat → List Expr → Bool
  | [], [] => true
  | i :: is, .Name x _ :: es => stB c sc i x && stsB c sc is es
  | _, _ => false
def tgB (c : Cn) (sc : Scope) : Tg → Expr → Bool
  | .one i, .Name x _ => stB c sc i x
  | .many is, .Tuple es _ _ => stsB c sc is es
  | _, _ => false
def remL (S : List Nat) (is : List Nat) : List Nat := S.filter fun i => decide (i ∉ is)
def isVar : Ex → Bool
  | .var _ => true
  | _ => false
def isCst : Ex → Bool
  | .cst _ => true
  | _ => false
/-- may this be handed back -/
def retB (c : Cn) (S : List Nat) (ret : Rt) (e : Ex) : Bool := match ret with
  | .new => (md c S e = .new) || (md c S e = .bor && isVar e) || isCst e
  | .frz => (md c S e ≠ .bor) || isVar e
  | .chg => false
/-- a call of a def that may raise: is its result new -/
def chkC (c : Cn) (sc : Scope) (S : List Nat) (f : Nat) (es : Exs) : Expr → Option Bool
  | .Call (.Name x _) (x0 :: xs) [] _ => match c.fn[f]? with
    | some (y, r) => if decide (y = x) && isG x && !c.hot && glb sc x && plainN x && chkEs c sc S es (x0 :: xs) && nbs c S es then some r else none
    | none => none
  | _ => none
def retC : Option Bool → Rt → Option Post
  | some true, .new => some .dead
  | some _, .frz => some .dead
  | _, _ => none
def chkRk (c : Cn) (sc : Scope) (ret : Rt) (S : List Nat) (f : Nat) (es : Exs) : Rk → Stmt → Option Post
  | .drop, .Expr v _ => (chkC c sc S f es v).map fun _ => .live S
  | .set i, .Assign [.Name x _] v _ => if stB c sc i x then (chkC c sc S f es v).map fun _ => .live (remL S [i]) else none
  | .own i, .Assign [.Name x _] v _ => if stB c sc i x && decide (i ≠ 0) then (match chkC c sc S f es v with | some true => some (.live (i :: remL S [i])) | _ => none) else none
  | .ret, .Return (some v) _ => retC (chkC c sc S f es v) ret
  | _, _ => none
def nameB (c : Cn) (sc : Scope) : Option Nat → Option Str → Bool
  | none, none => true
  | some i, some n => decide (c.N[i]? = some n) && locB sc n
  | _, _ => false
def remO (S : List Nat) : Option Nat → List Nat
  | none => S
  | some i => remL S [i]
def outO (L : List Nat) : Option Nat → Post → Bool
  | none, _ => true
  | some i, .dead => decide (i ∉ L)
  | some i, .live S => decide (i ∉ L) && decide (i ∉ S)
mutual
def chkS (c : Cn) (sc : Scope) (ret : Rt) (XL S L : List Nat) : St → Stmt → Option Post
  | .set true i e, .Assign [.Name x px] v _ => if stB c sc i x && chkE c sc S e v && (md c S e = .new) && decide (i ≠ 0) then some (.live (i :: remL S [i])) else none
  | .set false i e, .Assign [.Name x px] v _ => if stB c sc i x && chkE c sc S e v && nb c S e then some (.live (remL S [i])) else none
  | .unp is e, .Assign [.Tuple es _ _] v _ => if stsB c sc is es && chkE c sc S e v && nb c S e && noTup v && noComp v then some (.live (remL S is)) else none
  | .par i j a b, .Assign [.Tuple [.Name x px, .Name y py] _ _] (.Tuple [v, w] _ _) _ => if decide (c.N[i]? = some x) && decide (c.N[j]? = some y) && decide (i ≠ j) && locB sc x && locB sc y && (px.line == py.line) && isNm v && isNm w && chkE c sc S a v && chkE c sc S b w && nb c S a && nb c S b && !c.hot
      then some (.live (remL S [i, j])) else none
  | .seti i k e, .Assign [.Subscript (.Name x px) z _] v _ => if decide (i ∈ S) && chkE c sc S (.var i) (.Name x px) && chkE c sc S k z && chkE c sc S e v && nb c S e && noSlice z then some (.live S) else none
  | .puti i k e, .Assign [.Subscript (.Name x px) z _] v _ => if decide (i ∈ S) && chkE c sc S (.var i) (.Name x px) && chkE c sc S k z && chkE c sc S e v && nb c S e && noSlice z then some (.live S) else none
  | .sdf i k e, .Expr (.Call (.Attribute (.Name x px) a p) [z, v] [] p') _ => if decide (a = "setdefault") && (p.endLine == p'.line) && decide (i ∈ S) && chkE c sc S (.var i) (.Name x px) && chkE c sc S k z && chkE c sc S e v && nb c S e && noStar z && noStar v then some (.live S) else none
  | .app i e, .Expr (.Call (.Attribute (.Name x px) a p) [v] [] p') _ => if decide (a = "append") && (p.endLine == p'.line || p.endLine == p'.line) && (p.endLine == p'.line) && decide (i ∈ S) && chkE c sc S (.var i) (.Name x px) && chkE c sc S e v && nb c S e && noStar v then some (.live S) else none
  | .apn i k e, .Expr (.Call (.Attribute (.Subscript (.Name x px) z _) a p) [v] [] p') _ => if decide (a = "append") && (p.endLine == p'.line) && decide (i ∈ S) && chkE c sc S (.var i) (.Name x px) && chkE c sc S k z && noSlice z && chkE c sc S e v && nb c S e && noStar v then some (.live S) else none
  | .apl i e, .Expr (.Call (.Attribute (.Name x px) a p) [v] [] p') _ => if decide (a = "append") && (p.endLine == p'.line) && decide (i ∈ S) && chkE c sc S (.var i) (.Name x px) && chkE c sc S e v && decide (md c S e = .new) && noStar v then some (.live S) else none
  | .sda i k e, .Expr (.Call (.Attribute (.Call (.Attribute (.Name x px) a p) [z, .List [] _] [] p2) a' p3) [.Name y py] [] p4) _ => match e with
    | .var j => if decide (a = "setdefault") && (p.endLine == p2.line) && decide (a' = "append") && (p3.endLine == p4.line) && decide (i ∈ S) && chkE c sc S (.var i) (.Name x px) && chkE c sc S k z && noStar z && decide (j ∉ S) && chkE c sc S (.var j) (.Name y py) then some (.live S) else none
    | _ => none
  | .ext i e, .Expr (.Call (.Attribute (.Name x px) a p) [v] [] p') _ => if decide (a = "extend") && (p.endLine == p'.line) && decide (i ∈ S) && chkE c sc S (.var i) (.Name x px) && chkE c sc S e v && decide (md c S e = .new) && noStar v then some (.live S) else none
  | .aug i o e, .AugAssign (.Name x _) op v _ => if stB c sc i x && decide (i ∉ S) && decide (o.py = op) && (decide (op = .Add) || decide (op = .Sub) || decide (op = .Mult)) && chkE c sc S e v then some (.live S) else none
  | .ret e, .Return (some v) _ => if chkE c sc S e v && retB c S ret e then some .dead else none
  | .retN, .Return none _ => if decide (ret ≠ .chg) then some .dead else none
  | .retM j, .Return (some (.Name x p)) _ => if decide (ret = .chg) && decide (0 ∈ S) && decide (j ∈ S) && decide (j ≠ 0) && chkE c sc S (.var j) (.Name x p) then some .dead else none
  | .mfor tg i f es b keep, .For t (.Call (.Name g _) (x0 :: xs) [] _) body [] _ => if subL keep S && decide (i ∈ keep) && tgB c sc tg t && (tg.slots.all fun i => decide (i ∉ keep)) && decide ((f, g) ∈ c.fm) && glb sc g && plainN g && isNm x0 && chkE c sc keep (.var i) x0 && chkEs c sc keep es xs && nbs c keep es && noStar x0 && !c.hot then
      match chkB c sc ret XL keep keep b body with
      | some .dead => some (.live keep)
      | some (.live S') => if subL keep S' then some (.live keep) else none
      | none => none
      else none
  | .iff k a b, .If t xs ys _ => if chkE c sc S k t && noIf t then
      match chkB c sc ret XL S L a xs, chkB c sc ret XL S L b ys with
      | some p, some q => some (p.join q)
      | _, _ => none
      else none
  | .for tg s b keep, .For t it xs [] _ => if subL keep S && tgB c sc tg t && (tg.slots.all fun i => decide (i ∉ keep)) && chkR c sc keep s t it && noSet it then
      match chkB c sc ret XL keep keep b xs with
      | some .dead => some (.live keep)
      | some (.live S') => if subL keep S' then some (.live keep) else none
      | none => none
      else none
  | .whl k b keep, .While t xs [] _ => if subL keep S && chkE c sc keep k t && noIf t then
      match chkB c sc ret XL keep keep b xs with
      | some .dead => some (.live keep)
      | some (.live S') => if subL keep S' then some (.live keep) else none
      | none => none
      else none
  | .brk, .Break _ => if subL L S then some .dead else none
  | .cnt, .Continue _ => if subL L S then some .dead else none
  | .pas, .Pass _ => some (.live S)
  | .drop e, .Expr v _ => if chkE c sc S e v && noComp v then some (.live S) else none
  | .nev, _ => some .dead
  | .popu is i, .Assign [.Tuple es _ _] (.Call (.Attribute (.Name x px) a p) [] [] p') _ => if stsB c sc is es && decide (a = "pop") && (p.endLine == p'.line) && decide (i ∈ S) && decide (i ∉ is) && chkE c sc S (.var i) (.Name x px) then some (.live (remL S is)) else none
  | .pop0 is i, .Assign [.Tuple es _ _] (.Call (.Attribute (.Name x px) a p) [.Constant (.int z) _ _] [] p') _ => if stsB c sc is es && decide (a = "pop") && decide (z = 0) && (p.endLine == p'.line) && decide (i ∈ S) && decide (i ∉ is) && chkE c sc S (.var i) (.Name x px) then some (.live (remL S is)) else none
  | .tri b o, .Try xs (_ :: _) ys [] _ => match chkB c sc ret XL S L b xs with
    | some (.live S') => chkB c sc ret XL S' L o ys
    | some .dead => some .dead
    | none => none
  | .rse k e, .Raise (some (.Call (.Name x _) [v] [] _)) none _ => if !c.hot && decide ((k, x) ∈ c.xr) && glb sc x && plainN x && chkE c sc S e v && noStar v && subL XL S then some .dead else none
  | .rcl k f es, x => if subL XL S then chkRk c sc ret S f es k x else none
  | .trx b h o keep, .Try xs (h0 :: hs) ys [] _ => if subL keep S && !c.hot then
      match chkB c sc ret keep S L b xs, chkH c sc ret keep L h (h0 :: hs) with
      | some .dead, some q => some q
      | some (.live S'), some q => match chkB c sc ret XL S' L o ys with
        | some p => some (p.join q)
        | none => none
      | _, _ => none
      else none
  | _, _ => none
def chkH (c : Cn) (sc : Scope) (ret : Rt) (S L : List Nat) : Hds → List ExceptHandler → Option Post
  | .nil, [] => some .dead
  | .cons k tb as b r, .ExceptHandler (some (.Name x _)) n (s0 :: su) _ :: hs => match c.xt[k]? with
    | some (z, j) => if decide (z = x) && tgtB c z j && (tb.all fun p => decide ((p.1, j, p.2) ∈ c.xq)) && glb sc x && nameB c sc as n then
        match chkB { c with hot := true } sc ret [] (remO S as) L b (s0 :: su), chkH c sc ret S L r hs with
        | some p, some q => if outO L as p then some (p.join q) else none
        | _, _ => none
        else none
    | none => none
  | _, _ => none
def chkB (c : Cn) (sc : Scope) (ret : Rt) (XL S L : List Nat) : Sts → List Stmt → Option Post
  | .nil, [] => some (.live S)
  | .frz i r, xs => chkB c sc ret XL (remL S [i]) L r xs
  | .cons s r, x :: xs => match chkS c sc ret XL S L s x with
    | some (.live S') => chkB c sc ret XL S' L r xs
    | some .dead => some .dead
    | none => none
  | _, _ => none
end
end PV
namespace PV
open PySem PySem.Spec PyProof.Rows L2
theorem chkS_set {c : _} {sc : _} {ret : _} {XL : _} {S : _} {L : _} {i : _} {e : _} {x : _} {px : _} {v : _} {u1 : _} : chkS c sc ret XL S L (.set true i e) (.Assign [.Name x px] v u1) = (if stB c sc i x && chkE c sc S e v && (md c S e = .new) && decide (i ≠ 0) then some (.live (i :: remL S [i])) else none) := rfl
theorem chkS_set2 {c : _} {sc : _} {ret : _} {XL : _} {S : _} {L : _} {i : _} {e : _} {x : _} {px : _} {v : _} {u1 : _} : chkS c sc ret XL S L (.set false i e) (.Assign [.Name x px] v u1) = (if stB c sc i x && chkE c sc S e v && nb c S e then some (.live (remL S [i])) else none) := rfl
theorem chkS_unp {c : _} {sc : _} {ret : _} {XL : _} {S : _} {L : _} {is : _} {e : _} {es : _} {u1 : _} {u2 : _} {v : _} {u3 : _} : chkS c sc ret XL S L (.unp is e) (.Assign [.Tuple es u1 u2] v u3) = (if stsB c sc is es && chkE c sc S e v && nb c S e && noTup v && noComp v then some (.live (remL S is)) else none) := rfl
theorem chkS_par {c : _} {sc : _} {ret : _} {XL : _} {S : _} {L : _} {i : _} {j : _} {a : _} {b : _} {x : _} {px : _} {y : _} {py : _} {u1 : _} {u2 : _} {v : _} {w : _} {u3 : _} {u4 : _} {u5 : _} : chkS c sc ret XL S L (.par i j a b) (.Assign [.Tuple [.Name x px, .Name y py] u1 u2] (.Tuple [v, w] u3 u4) u5) = (if decide (c.N[i]? = some x) && decide (c.N[j]? = some y) && decide (i ≠ j) && locB sc x && locB sc y && (px.line == py.line) && isNm v && isNm w && chkE c sc S a v && chkE c sc S b w && nb c S a && nb c S b && !c.hot
      then some (.live (remL S [i, j])) else none) := rfl
theorem chkS_seti {c : _} {sc : _} {ret : _} {XL : _} {S : _} {L : _} {i : _} {k : _} {e : _} {x : _} {px : _} {z : _} {u1 : _} {v : _} {u2 : _} : chkS c sc ret XL S L (.seti i k e) (.Assign [.Subscript (.Name x px) z u1] v u2) = (if decide (i ∈ S) && chkE c sc S (.var i) (.Name x px) && chkE c sc S k z && chkE c sc S e v && nb c S e && noSlice z then some (.live S) else none) := rfl
theorem chkS_puti {c : _} {sc : _} {ret : _} {XL : _} {S : _} {L : _} {i : _} {k : _} {e : _} {x : _} {px : _} {z : _} {u1 : _} {v : _} {u2 : _} : chkS c sc ret XL S L (.puti i k e) (.Assign [.Subscript (.Name x px) z u1] v u2) = (if decide (i ∈ S) && chkE c sc S (.var i) (.Name x px) && chkE c sc S k z && chkE c sc S e v && nb c S e && noSlice z then some (.live S) else none) := rfl
theorem chkS_sdf {c : _} {sc : _} {ret : _} {XL : _} {S : _} {L : _} {i : _} {k : _} {e : _} {x : _} {px : _} {a : _} {p : _} {z : _} {v : _} {p' : _} {u1 : _} : chkS c sc ret XL S L (.sdf i k e) (.Expr (.Call (.Attribute (.Name x px) a p) [z, v] [] p') u1) = (if decide (a = "setdefault") && (p.endLine == p'.line) && decide (i ∈ S) && chkE c sc S (.var i) (.Name x px) && chkE c sc S k z && chkE c sc S e v && nb c S e && noStar z && noStar v then some (.live S) else none) := rfl
theorem chkS_app {c : _} {sc : _} {ret : _} {XL : _} {S : _} {L : _} {i : _} {e : _} {x : _} {px : _} {a : _} {p : _} {v : _} {p' : _} {u1 : _} : chkS c sc ret XL S L (.app i e) (.Expr (.Call (.Attribute (.Name x px) a p) [v] [] p') u1) = (if decide (a = "append") && (p.endLine == p'.line || p.endLine == p'.line) && (p.endLine == p'.line) && decide (i ∈ S) && chkE c sc S (.var i) (.Name x px) && chkE c sc S e v && nb c S e && noStar v then some (.live S) else none) := rfl
theorem chkS_apn {c : _} {sc : _} {ret : _} {XL : _} {S : _} {L : _} {i : _} {k : _} {e : _} {x : _} {px : _} {z : _} {u1 : _} {a : _} {p : _} {v : _} {p' : _} {u2 : _} : chkS c sc ret XL S L (.apn i k e) (.Expr (.Call (.Attribute (.Subscript (.Name x px) z u1) a p) [v] [] p') u2) = (if decide (a = "append") && (p.endLine == p'.line) && decide (i ∈ S) && chkE c sc S (.var i) (.Name x px) && chkE c sc S k z && noSlice z && chkE c sc S e v && nb c S e && noStar v then some (.live S) else none) := rfl
theorem chkS_apl {c : _} {sc : _} {ret : _} {XL : _} {S : _} {L : _} {i : _} {e : _} {x : _} {px : _} {a : _} {p : _} {v : _} {p' : _} {u1 : _} : chkS c sc ret XL S L (.apl i e) (.Expr (.Call (.Attribute (.Name x px) a p) [v] [] p') u1) = (if decide (a = "append") && (p.endLine == p'.line) && decide (i ∈ S) && chkE c sc S (.var i) (.Name x px) && chkE c sc S e v && decide (md c S e = .new) && noStar v then some (.live S) else none) := rfl
theorem chkS_sda {c : _} {sc : _} {ret : _} {XL : _} {S : _} {L : _} {i : _} {k : _} {e : _} {x : _} {px : _} {a : _} {p : _} {z : _} {u1 : _} {p2 : _} {a' : _} {p3 : _} {y : _} {py : _} {p4 : _} {u2 : _} : chkS c sc ret XL S L (.sda i k e) (.Expr (.Call (.Attribute (.Call (.Attribute (.Name x px) a p) [z, .List [] u1] [] p2) a' p3) [.Name y py] [] p4) u2) = (match e with
    | .var j => if decide (a = "setdefault") && (p.endLine == p2.line) && decide (a' = "append") && (p3.endLine == p4.line) && decide (i ∈ S) && chkE c sc S (.var i) (.Name x px) && chkE c sc S k z && noStar z && decide (j ∉ S) && chkE c sc S (.var j) (.Name y py) then some (.live S) else none
    | _ => none) := rfl
theorem chkS_ext {c : _} {sc : _} {ret : _} {XL : _} {S : _} {L : _} {i : _} {e : _} {x : _} {px : _} {a : _} {p : _} {v : _} {p' : _} {u1 : _} : chkS c sc ret XL S L (.ext i e) (.Expr (.Call (.Attribute (.Name x px) a p) [v] [] p') u1) = (if decide (a = "extend") && (p.endLine == p'.line) && decide (i ∈ S) && chkE c sc S (.var i) (.Name x px) && chkE c sc S e v && decide (md c S e = .new) && noStar v then some (.live S) else none) := rfl
theorem chkS_aug {c : _} {sc : _} {ret : _} {XL : _} {S : _} {L : _} {i : _} {o : _} {e : _} {x : _} {u1 : _} {op : _} {v : _} {u2 : _} : chkS c sc ret XL S L (.aug i o e) (.AugAssign (.Name x u1) op v u2) = (if stB c sc i x && decide (i ∉ S) && decide (o.py = op) && (decide (op = .Add) || decide (op = .Sub) || decide (op = .Mult)) && chkE c sc S e v then some (.live S) else none) := rfl
theorem chkS_ret {c : _} {sc : _} {ret : _} {XL : _} {S : _} {L : _} {e : _} {v : _} {u1 : _} : chkS c sc ret XL S L (.ret e) (.Return (some v) u1) = (if chkE c sc S e v && retB c S ret e then some .dead else none) := rfl
theorem chkS_retN {c : _} {sc : _} {ret : _} {XL : _} {S : _} {L : _} {u1 : _} : chkS c sc ret XL S L (.retN) (.Return none u1) = (if decide (ret ≠ .chg) then some .dead else none) := rfl
theorem chkS_retM {c : _} {sc : _} {ret : _} {XL : _} {S : _} {L : _} {j : _} {x : _} {p : _} {u1 : _} : chkS c sc ret XL S L (.retM j) (.Return (some (.Name x p)) u1) = (if decide (ret = .chg) && decide (0 ∈ S) && decide (j ∈ S) && decide (j ≠ 0) && chkE c sc S (.var j) (.Name x p) then some .dead else none) := rfl
theorem chkS_mfor {c : _} {sc : _} {ret : _} {XL : _} {S : _} {L : _} {tg : _} {i : _} {f : _} {es : _} {b : _} {keep : _} {t : _} {g : _} {u1 : _} {x0 : _} {xs : _} {u2 : _} {body : _} {u3 : _} : chkS c sc ret XL S L (.mfor tg i f es b keep) (.For t (.Call (.Name g u1) (x0 :: xs) [] u2) body [] u3) = (if subL keep S && decide (i ∈ keep) && tgB c sc tg t && (tg.slots.all fun i => decide (i ∉ keep)) && decide ((f, g) ∈ c.fm) && glb sc g && plainN g && isNm x0 && chkE c sc keep (.var i) x0 && chkEs c sc keep es xs && nbs c keep es && noStar x0 && !c.hot then
      match chkB c sc ret XL keep keep b body with
      | some .dead => some (.live keep)
      | some (.live S') => if subL keep S' then some (.live keep) else none
      | none => none
      else none) := rfl
theorem chkS_iff {c : _} {sc : _} {ret : _} {XL : _} {S : _} {L : _} {k : _} {a : _} {b : _} {t : _} {xs : _} {ys : _} {u1 : _} : chkS c sc ret XL S L (.iff k a b) (.If t xs ys u1) = (if chkE c sc S k t && noIf t then
      match chkB c sc ret XL S L a xs, chkB c sc ret XL S L b ys with
      | some p, some q => some (p.join q)
      | _, _ => none
      else none) := rfl
theorem chkS_for {c : _} {sc : _} {ret : _} {XL : _} {S : _} {L : _} {tg : _} {s : _} {b : _} {keep : _} {t : _} {it : _} {xs : _} {u1 : _} : chkS c sc ret XL S L (.for tg s b keep) (.For t it xs [] u1) = (if subL keep S && tgB c sc tg t && (tg.slots.all fun i => decide (i ∉ keep)) && chkR c sc keep s t it && noSet it then
      match chkB c sc ret XL keep keep b xs with
      | some .dead => some (.live keep)
      | some (.live S') => if subL keep S' then some (.live keep) else none
      | none => none
      else none) := rfl
theorem chkS_whl {c : _} {sc : _} {ret : _} {XL : _} {S : _} {L : _} {k : _} {b : _} {keep : _} {t : _} {xs : _} {u1 : _} : chkS c sc ret XL S L (.whl k b keep) (.While t xs [] u1) = (if subL keep S && chkE c sc keep k t && noIf t then
      match chkB c sc ret XL keep keep b xs with
      | some .dead => some (.live keep)
      | some (.live S') => if subL keep S' then some (.live keep) else none
      | none => none
      else none) := rfl
theorem chkS_brk {c : _} {sc : _} {ret : _} {XL : _} {S : _} {L : _} {u1 : _} : chkS c sc ret XL S L (.brk) (.Break u1) = (if subL L S then some .dead else none) := rfl
theorem chkS_cnt {c : _} {sc : _} {ret : _} {XL : _} {S : _} {L : _} {u1 : _} : chkS c sc ret XL S L (.cnt) (.Continue u1) = (if subL L S then some .dead else none) := rfl
theorem chkS_pas {c : _} {sc : _} {ret : _} {XL : _} {S : _} {L : _} {u1 : _} : chkS c sc ret XL S L (.pas) (.Pass u1) = (some (.live S)) := rfl
theorem chkS_drop {c : _} {sc : _} {ret : _} {XL : _} {S : _} {L : _} {e : _} {v : _} {u1 : _} : chkS c sc ret XL S L (.drop e) (.Expr v u1) = (if chkE c sc S e v && noComp v then some (.live S) else none) := rfl
theorem chkS_nev {c : _} {sc : _} {ret : _} {XL : _} {S : _} {L : _} {u1 : _} : chkS c sc ret XL S L (.nev) (u1) = (some .dead) := rfl
theorem chkS_popu {c : _} {sc : _} {ret : _} {XL : _} {S : _} {L : _} {is : _} {i : _} {es : _} {u1 : _} {u2 : _} {x : _} {px : _} {a : _} {p : _} {p' : _} {u3 : _} : chkS c sc ret XL S L (.popu is i) (.Assign [.Tuple es u1 u2] (.Call (.Attribute (.Name x px) a p) [] [] p') u3) = (if stsB c sc is es && decide (a = "pop") && (p.endLine == p'.line) && decide (i ∈ S) && decide (i ∉ is) && chkE c sc S (.var i) (.Name x px) then some (.live (remL S is)) else none) := rfl
theorem chkS_pop0 {c : _} {sc : _} {ret : _} {XL : _} {S : _} {L : _} {is : _} {i : _} {es : _} {u1 : _} {u2 : _} {x : _} {px : _} {a : _} {p : _} {z : _} {u3 : _} {u4 : _} {p' : _} {u5 : _} : chkS c sc ret XL S L (.pop0 is i) (.Assign [.Tuple es u1 u2] (.Call (.Attribute (.Name x px) a p) [.Constant (.int z) u3 u4] [] p') u5) = (if stsB c sc is es && decide (a = "pop") && decide (z = 0) && (p.endLine == p'.line) && decide (i ∈ S) && decide (i ∉ is) && chkE c sc S (.var i) (.Name x px) then some (.live (remL S is)) else none) := rfl
theorem chkS_tri {c : _} {sc : _} {ret : _} {XL : _} {S : _} {L : _} {b : _} {o : _} {xs : _} {u1 : _} {u2 : _} {ys : _} {u3 : _} : chkS c sc ret XL S L (.tri b o) (.Try xs (u1 :: u2) ys [] u3) = (match chkB c sc ret XL S L b xs with
    | some (.live S') => chkB c sc ret XL S' L o ys
    | some .dead => some .dead
    | none => none) := rfl
theorem chkS_rse {c : _} {sc : _} {ret : _} {XL : _} {S : _} {L : _} {k : _} {e : _} {x : _} {u1 : _} {v : _} {u2 : _} {u3 : _} : chkS c sc ret XL S L (.rse k e) (.Raise (some (.Call (.Name x u1) [v] [] u2)) none u3) = (if !c.hot && decide ((k, x) ∈ c.xr) && glb sc x && plainN x && chkE c sc S e v && noStar v && subL XL S then some .dead else none) := rfl
theorem chkS_rcl {c : _} {sc : _} {ret : _} {XL : _} {S : _} {L : _} {k : _} {f : _} {es : _} {x : _} : chkS c sc ret XL S L (.rcl k f es) (x) = (if subL XL S then chkRk c sc ret S f es k x else none) := rfl
theorem chkS_trx {c : _} {sc : _} {ret : _} {XL : _} {S : _} {L : _} {b : _} {h : _} {o : _} {keep : _} {xs : _} {h0 : _} {hs : _} {ys : _} {u1 : _} : chkS c sc ret XL S L (.trx b h o keep) (.Try xs (h0 :: hs) ys [] u1) = (if subL keep S && !c.hot then
      match chkB c sc ret keep S L b xs, chkH c sc ret keep L h (h0 :: hs) with
      | some .dead, some q => some q
      | some (.live S'), some q => match chkB c sc ret XL S' L o ys with
        | some p => some (p.join q)
        | none => none
      | _, _ => none
      else none) := rfl
theorem chkB_nil {c : _} {sc : _} {ret : _} {XL : _} {S : _} {L : _} : chkB c sc ret XL S L (.nil) ([]) = (some (.live S)) := rfl
theorem chkB_frz {c : _} {sc : _} {ret : _} {XL : _} {S : _} {L : _} {i : _} {r : _} {xs : _} : chkB c sc ret XL S L (.frz i r) (xs) = (chkB c sc ret XL (remL S [i]) L r xs) := rfl
theorem chkB_cons {c : _} {sc : _} {ret : _} {XL : _} {S : _} {L : _} {s : _} {r : _} {x : _} {xs : _} : chkB c sc ret XL S L (.cons s r) (x :: xs) = (match chkS c sc ret XL S L s x with
    | some (.live S') => chkB c sc ret XL S' L r xs
    | some .dead => some .dead
    | none => none) := rfl
theorem chkH_nil {c : _} {sc : _} {ret : _} {S : _} {L : _} : chkH c sc ret S L (.nil) ([]) = (some .dead) := rfl
theorem chkH_cons {c : _} {sc : _} {ret : _} {S : _} {L : _} {k : _} {tb : _} {as : _} {b : _} {r : _} {x : _} {u1 : _} {n : _} {s0 : _} {su : _} {u2 : _} {hs : _} : chkH c sc ret S L (.cons k tb as b r) (.ExceptHandler (some (.Name x u1)) n (s0 :: su) u2 :: hs) = (match c.xt[k]? with
    | some (z, j) => if decide (z = x) && tgtB c z j && (tb.all fun p => decide ((p.1, j, p.2) ∈ c.xq)) && glb sc x && nameB c sc as n then
        match chkB { c with hot := true } sc ret [] (remO S as) L b (s0 :: su), chkH c sc ret S L r hs with
        | some p, some q => if outO L as p then some (p.join q) else none
        | _, _ => none
        else none
    | none => none) := rfl
end PV
namespace PV
open PySem PySem.Spec PyProof.Rows L2

structure SOk (X : Cx) (W : WX) : Prop where
  fn : ∀ x, X.fn x = true
  pass : PassesOwn (model X.prog X.w) X.A X.env X.xe
  kind : X.env.scope.kind = .function
  tk : L2N.Takes X W
  hs : X.stack = X.env :: X.outer
  hf : X.env.frame = some X.env.locals
theorem sw_eq {elt : Expr} {gs : List Comprehension} {scope : Scope} {pos py : Pos} {y : Str} {l : Nat} {env : PySem.Env} : swapsWith (.ListComp elt gs scope pos) (some (.Name y py)) l env =
    pure (env.blockKind == .function && env.kindOf y == some .local && py.line == pos.line && !(scope.names.any fun (n, k) => n == y && (k == .local || k == .cell))) := rfl
theorem sw_no {e : Expr} {t : Option Expr} {l : Nat} {env : PySem.Env} (h : noComp e = true) : swapsWith e t l env = pure false := by
  cases e <;> first | rfl | cases h
theorem sw_sub {e o i : Expr} {p : Pos} {l : Nat} {env : PySem.Env} : swapsWith e (some (.Subscript o i p)) l env = pure false := by
  cases e <;> rfl
theorem sw_tup {e : Expr} {es : List Expr} {k : Nat} {p : Pos} {l : Nat} {env : PySem.Env} : swapsWith e (some (.Tuple es k p)) l env = pure false := by
  cases e <;> rfl
theorem ss_sub {e o i : Expr} {p : Pos} {env : PySem.Env} : swappedStores [.Subscript o i p] e env = pure none := by
  cases e <;> rfl
theorem ss_tup {e : Expr} {es : List Expr} {k : Nat} {p : Pos} {env : PySem.Env} (h : noTup e = true) : swappedStores [.Tuple es k p] e env = pure none := by
  cases e <;> first | rfl | cases h
theorem sws_sub {e o i : Expr} {p : Pos} {l : Nat} {env : PySem.Env} : swapsWithSole [.Subscript o i p] e l env = pure false := by cases e <;> rfl
theorem sws_tup {e : Expr} {es : List Expr} {k : Nat} {p : Pos} {l : Nat} {env : PySem.Env} : swapsWithSole [.Tuple es k p] e l env = pure false := by cases e <;> rfl
theorem asg_sub {o i : Expr} {p : Pos} {env : PySem.Env} (h : noSlice i = true) : ∀ v, assign (.Subscript o i p) env v = (do
      let ov ← holding [v] (eval o env)
      let iv ← holding [v, ov] (eval i env)
      standAt p
      holding [v, ov, iv] (setItem ov iv v)
      release [v, ov, iv] []) := fun v => by
  cases i <;> first | rfl | cases h
theorem stB_of {X : Cx} {c : Cn} (hN : X.N = c.N) (f : ∀ x, X.fn x = true) {i : Nat} {x : Str} {p : Pos} (h : stB c X.env.scope i x = true) : X.N[i]? = some x ∧ Loc X.env.scope x ∧ (X.fn x = true ∨ X.env.scope.names.lookup x = some .local) := by
  simp only [stB, Bool.and_eq_true, decide_eq_true_eq] at h
  refine ⟨hN ▸ h.1, ?_, .inl (f x)⟩
  have h2 := h.2
  split at h2
  · rename_i q; exact .inl q
  · rename_i q; exact .inr q
  · cases h2
theorem stsB_of {X : Cx} {c : Cn} (hN : X.N = c.N) (f : ∀ x, X.fn x = true) : ∀ {is : List Nat} {es : List Expr}, stsB c X.env.scope is es = true → StoresOk X is es
  | [], [], _ => trivial
  | i :: is, e :: es, h => by
    cases e <;> try (cases h; done)
    simp only [stsB, Bool.and_eq_true] at h
    obtain ⟨h1, h2, h3⟩ := stB_of (p := default) hN f h.1
    exact ⟨⟨_, _, rfl, h1, h2, h3⟩, stsB_of hN f h.2⟩
  | [], _ :: _, h => by cases h
  | _ :: _, [], h => by cases h
theorem tgB_of {X : Cx} {c : Cn} (hN : X.N = c.N) (f : ∀ x, X.fn x = true) {tg : Tg} {e : Expr} (h : tgB c X.env.scope tg e = true) : TgOk X tg e := by
  cases tg with
  | one i =>
    cases e <;> try (cases h; done)
    obtain ⟨h1, h2, h3⟩ := stB_of (p := default) hN f h
    exact ⟨_, _, rfl, h1, h2, h3⟩
  | many is =>
    cases e <;> try (cases h; done)
    exact ⟨_, _, _, rfl, stsB_of hN f h⟩
theorem chk_setc {c : Cn} {sc : Scope} {S : List Nat} {e : Ex} {a : Expr} {b : List Comprehension} {d : Scope} {p : Pos} : chkE c sc S e (.SetComp a b d p) = false := by
  cases e with
  | cst k => cases k <;> rfl
  | _ => rfl
theorem chk_dictc {c : Cn} {sc : Scope} {S : List Nat} {e : Ex} {a a' : Expr} {b : List Comprehension} {d : Scope} {p : Pos} : chkE c sc S e (.DictComp a a' b d p) = false := by
  cases e with
  | cst k => cases k <;> rfl
  | _ => rfl
theorem lc_inv {c : Cn} {sc : Scope} {S : List Nat} {tg : Tg} {s : Sr} {k : Ox} {e : Ex} {elt : Expr} {gs : List Comprehension} {scope : Scope} {p : Pos} (h : chkE c sc S (.lc tg s k e) (.ListComp elt gs scope p) = true) :
    ∃ t it ifs, gs = [⟨t, it, ifs, 0⟩] ∧ chkR c sc S s t it = true ∧ noSet it = true ∧ blkC c.N sc scope (own c tg.slots) = true ∧ chkT c (relS scope sc) tg t = true ∧ (tg.slots.all fun i => decide (i ∉ S)) = true ∧
      chkIf c (relS scope sc) S k ifs = true ∧ chkE c (relS scope sc) S e elt = true ∧ nb c S e = true := by
  match gs, h with
  | [⟨t, it, ifs, 0⟩], h =>
    simp only [chkE_lc, Bool.and_eq_true] at h
    obtain ⟨⟨⟨⟨⟨⟨⟨g1, g2⟩, g3⟩, g4⟩, g5⟩, g6⟩, g7⟩, g8⟩ := h
    exact ⟨t, it, ifs, rfl, g1, g2, g3, g4, g5, g6, g7, g8⟩
section
variable {X : Cx} {G : Wh} {M : Mn} {c : Cn} {S : List Nat}
/-- name = e, whatever e is -/
theorem set_any {W : WX} {i : Nat} {x : Str} {px pos : Pos} {e : Ex} {v : Expr} (o : Ok X G M c) (so : SOk X W) (hs : stB c X.env.scope i x = true) (he : chkE c X.env.scope S e v = true) :
    PS X (.Assign [.Name x px] v pos) (tAsg (rE G S (md c S e) (ev M e)) (gName i)) := by
  obtain ⟨h1, h2, h3⟩ := stB_of (p := px) o.N so.fn hs
  have nd : X.N.Nodup := by rw [o.N]; exact o.nd
  have hv := sndE (M := M) e o he
  by_cases hc : noComp v = true
  · exact ps_set nd h1 h2 hv.pe (sw_no hc) h3
  · cases v <;> try (exact absurd rfl hc)
    · rename_i elt gs scope p
      cases q : (X.env.blockKind == .function && X.env.kindOf x == some .local && px.line == p.line && !(scope.names.any fun (n, k) => n == x && (k == .local || k == .cell))) with
      | false => exact ps_set nd h1 h2 hv.pe (by rw [sw_eq, q]) h3
      | true =>
        have hsw : swapsWith (.ListComp elt gs scope p) (some (.Name x px)) pos.line X.env = pure true := by rw [sw_eq, q]
        have hl : X.env.scope.names.lookup x = some .local := by
          simp only [Bool.and_eq_true] at q
          have := q.1.1.2
          exact eq_of_beq this
        cases e with
        | lc tg s k e =>
          obtain ⟨t, it, ifs, rfl, g1, g2, g3, g4, g5, g6, g7, g8⟩ := lc_inv he
          exact set_lc o (by rw [← o.N]; exact h1) hl hsw (sndR s o g1) g2 g3 (all_slots g5) g8 g4 (fun s H C cl fp => sndIf k (X := X.blk s H scope (compEnvC scope cl C X.env) fp) o.blk g6) (fun s H C cl fp => sndE e (X := X.blk s H scope (compEnvC scope cl C X.env) fp) o.blk g7)
        | nls tg s =>
          obtain ⟨t, it, scope', p', pl, ex, g1, g2, g3, g4, g5⟩ := nls_inv he
          cases ex
          exact set_nls o (by rw [← o.N]; exact h1) hl hsw (sndR s o g1) g2 g3 (all_slots g5) g4
        | vlc i2 tg e =>
          match gs, he, hsw with
          | [⟨t, .Call (.Attribute (.Name x2 px2) m apos) [] [] p2, [], 0⟩], he, hsw =>
            simp only [chkE_vlc, Bool.and_eq_true, decide_eq_true_eq] at he
            obtain ⟨⟨⟨⟨⟨⟨⟨⟨⟨rfl, g1⟩, g2⟩, g3⟩, g4⟩, g5⟩, g6⟩, g7⟩, g8⟩, g9⟩ := he
            rw [ev_vlcE]
            exact set_vlc o (by rw [← o.N]; exact h1) hl hsw g1 (by simp only [chkE_var, Bool.and_eq_true, decide_eq_true_eq]; exact ⟨g2, g3⟩) g4 (not_hot g5) g6 g7 g8 (fun s H C cl fp => sndE e (X := X.blk s H scope (compEnvC scope cl C X.env) fp) o.blk g9)
        | cst q => cases q <;> cases he
        | _ => cases he
    · rw [chk_setc] at he; cases he
    · rw [chk_dictc] at he; cases he
end
def SndS (X : Cx) (G : Wh) (M : Mn) (S : List Nat) (K : Kx) (s : St) (x : Stmt) (P : Post) : Prop := PS X x (rS G S K P (exS M s))
theorem remL_sub {S is : List Nat} : ∀ i ∈ remL S is, i ∈ S := fun i h => (List.mem_filter.mp h).1
theorem remL_out {S is : List Nat} {i : Nat} (h : i ∈ is) : i ∉ remL S is := fun q => of_decide_eq_true (List.mem_filter.mp q).2 h
section
variable {X : Cx} {G : Wh} {M : Mn} {c : Cn} {S : List Nat} {K : Kx} {W : WX}
theorem nd_of (o : Ok X G M c) : X.N.Nodup := by rw [o.N]; exact o.nd
theorem snd_setF {i : Nat} {x : Str} {px pos : Pos} {e : Ex} {v : Expr} (o : Ok X G M c) (so : SOk X W) (hs : stB c X.env.scope i x = true) (he : chkE c X.env.scope S e v = true) (n : nb c S e = true) : SndS X G M S K (.set false i e) (.Assign [.Name x px] v pos) (.live (remL S [i])) := by
  refine (set_any (px := px) (pos := pos) o so hs he).imp fun Dd σ H ⟨E, B, δ, fl, j, hf, k⟩ => ?_
  simp only [exS] at hf
  obtain ⟨d, f1, hf⟩ := Rs.bind_ok hf
  rw [Bool.false_and, if_neg Bool.false_ne_true] at hf
  cases hf
  refine ⟨E, B, δ, d, j, f1, fun v H1 s1 o1 => ?_⟩
  have r := o1.f j.trk (nb_of n)
  have hi : i ∉ remL S [i] := remL_out (by simp)
  have j1 := (j.same s1).weak (remL_sub (is := [i]))
  have j2 := j1.set hi (r.less fun a o => OS_sub remL_sub o)
  refine k _ rfl E _ H1 (Sm.refl E) j2 ?_
  rw [OS_set hi]
  exact (same_ext s1).trans (ext_weak remL_sub)
theorem snd_setT {i : Nat} {x : Str} {px pos : Pos} {e : Ex} {v : Expr} (o : Ok X G M c) (so : SOk X W) (hs : stB c X.env.scope i x = true) (he : chkE c X.env.scope S e v = true) (n : md c S e = .new) (h0 : i ≠ 0) : SndS X G M S K (.set true i e) (.Assign [.Name x px] v pos) (.live (i :: remL S [i])) := by
  refine (set_any (px := px) (pos := pos) o so hs he).imp fun Dd σ H ⟨E, B, δ, fl, j, hf, k⟩ => ?_
  simp only [exS] at hf
  obtain ⟨d, f1, hf⟩ := Rs.bind_ok hf
  split at hf
  · cases hf
  · rename_i hm
    cases hf
    have hm' : isMut d = true ∧ i < δ.length := by
      cases q : isMut d <;> cases q2 : decide (i < δ.length) <;> simp_all
    refine ⟨E, B, δ, d, j, f1, fun v H1 s1 o1 => ?_⟩
    rw [n] at o1
    rcases o1 with ⟨p, F, rfl, hp, r⟩ | ⟨hn, _⟩
    · have hi : i ∉ remL S [i] := remL_out (by simp)
      have j1 := j.weak (remL_sub (is := [i]))
      obtain ⟨j2, x2⟩ := j1.own s1 hi h0 (by rw [j.len]; exact hm'.2) hp (r.less fun a o => o.elim (fun q => .inl (OS_sub remL_sub q)) .inr)
      exact k _ rfl _ _ H1 .setF j2 ((ext_weak remL_sub).trans x2)
    · rw [hm'.1] at hn; cases hn
theorem snd_unp {is : List Nat} {es : List Expr} {kk : Nat} {e : Ex} {v : Expr} {px pos : Pos} (o : Ok X G M c) (so : SOk X W) (hs : stsB c X.env.scope is es = true) (he : chkE c X.env.scope S e v = true) (n : nb c S e = true) (n2 : noTup v = true) (n3 : noComp v = true) :
    SndS X G M S K (.unp is e) (.Assign [.Tuple es kk px] v pos) (.live (remL S is)) := by
  have ht : TgOk X (.many is) (.Tuple es kk px) := ⟨_, _, _, rfl, stsB_of o.N so.fn hs⟩
  refine (ps_asg (sndE (M := M) e o he).pe (pg_all (S := remL S is) (tg := .many is) o.K (nd_of o) o.warm ht fun i hi => remL_out hi) sws_tup (ss_tup n2) rfl).imp fun Dd σ H ⟨E, B, δ, fl, j, hf, k⟩ => ?_
  simp only [exS] at hf
  obtain ⟨d, f1, hf⟩ := Rs.bind_ok hf
  obtain ⟨δ', f2, hf⟩ := Rs.bind_ok hf
  cases hf
  refine ⟨E, B, δ, d, j, f1, fun v H1 s1 o1 => ?_⟩
  have r := o1.f j.trk (nb_of n)
  have j1 := (j.same s1).weak (remL_sub (is := is))
  refine ⟨E, B, δ, d, δ', j1, r.less fun a o => OS_sub remL_sub o, f2, fun σ' j2 _ eO => k _ rfl E σ' H1 (Sm.refl E) j2 ?_⟩
  rw [eO]
  exact (same_ext s1).trans (ext_weak remL_sub)
theorem ss_par {x y : Str} {px py pt p2 : Pos} {kt k2 : Nat} {v w : Expr} {env : PySem.Env} (hk : env.scope.kind = .function) (hx : env.scope.names.lookup x = some .local) (hy : env.scope.names.lookup y = some .local) (hl : (px.line == py.line) = true) (hne : x ≠ y) (nv : isNm v = true) (nw : isNm w = true) :
    swappedStores [.Tuple [.Name x px, .Name y py] kt pt] (.Tuple [v, w] k2 p2) env = pure (some [x, y]) := by
  cases v <;> try (cases nv; done)
  cases w <;> try (cases nw; done)
  rename_i a pa b pb
  have kx : env.kindOf x = some .local := hx
  have ky : env.kindOf y = some .local := hy
  have hb : env.blockKind = .function := by unfold PySem.Env.blockKind; rw [hk]; rfl
  have hl' : py.line = px.line := (eq_of_beq hl).symm
  have na := (plainN_of nv).1
  have e1 : ([Expr.Name a pa, Expr.Name b pb].all (constantsAlone 8)) = false := by
    rw [List.all_cons]
    show (a == ("__debug__" : Str) && _) = false
    rw [na, Bool.false_and]
  have e2 : [x, y].eraseDups.length = 2 := by
    have : (y == x) = false := beq_eq_false_iff_ne.mpr fun z => hne z.symm
    simp [List.eraseDups_cons, this]
  unfold swappedStores
  simp [hb, kx, ky, hl', e2, Expr.pos, foldedForSure, constantsAlone, na]
theorem snd_par {i k : Nat} {a b : Ex} {x y : Str} {px py pt p2 pos : Pos} {kt k2 : Nat} {v w : Expr} (o : Ok X G M c) (so : SOk X W) (h1 : c.N[i]? = some x) (h2 : c.N[k]? = some y) (hik : i ≠ k) (hx : locB X.env.scope x = true) (hy : locB X.env.scope y = true) (hl : (px.line == py.line) = true)
    (nv : isNm v = true) (nw : isNm w = true) (ha : chkE c X.env.scope S a v = true) (hb : chkE c X.env.scope S b w = true) (na : nb c S a = true) (nb' : nb c S b = true) (hh : c.hot = false) :
    SndS X G M S K (.par i k a b) (.Assign [.Tuple [.Name x px, .Name y py] kt pt] (.Tuple [v, w] k2 p2) pos) (.live (remL S [i, k])) := by
  have nd := nd_of o
  have hne : x ≠ y := fun z => hik (nodup_ix o.nd h1 (z ▸ h2))
  have sv : noStar v = true := by cases v <;> first | rfl | cases nv
  have sw : noStar w = true := by cases w <;> first | rfl | cases nw
  refine (ps_par (kt := kt) (k2 := k2) (pt := pt) (pt2 := p2) (pos := pos) (o.cm hh) nd (o.N ▸ h1) (o.N ▸ h2) hik (loc_of hx) (loc_of hy) (pa_cons (sndE (M := M) a o ha).pe (pa_cons (sndE (M := M) b o hb).pe pa_nil (starEach_cons sw)) (starEach_cons sv))
    (ss_par so.kind (loc_of hx) (loc_of hy) hl hne nv nw) sws_tup).imp fun Dd σ H ⟨E, B, δ, fl, j, hf, q⟩ => ?_
  simp only [exS] at hf
  obtain ⟨d1, f1, hf⟩ := Rs.bind_ok hf
  obtain ⟨d2, f2, hf⟩ := Rs.bind_ok hf
  cases hf
  refine ⟨E, B, δ, d1, j, f1, fun v1 H1 s1 o1 => ⟨E, B, δ, d2, j.same s1, f2, fun v2 H2 s2 o2 => ⟨v1, v2, rfl, ?_⟩⟩⟩
  have r1 := (o1.f j.trk (nb_of na)).same s2
  have r2 := o2.f (j.same s1).trk (nb_of nb')
  have hi : i ∉ remL S [i, k] := remL_out (by simp)
  have hk : k ∉ remL S [i, k] := remL_out (by simp)
  have j1 := (j.same (s1.trans s2)).weak (remL_sub (is := [i, k]))
  have j2 := j1.set hi (r1.less fun a o => OS_sub remL_sub o)
  have j3 := j2.set hk (by rw [OS_set hi]; exact r2.less fun a o => OS_sub remL_sub o)
  refine q _ rfl E _ H2 (Sm.refl E) j3 ?_
  rw [OS_set hk, OS_set hi]
  exact (same_ext (s1.trans s2)).trans (ext_weak remL_sub)
/-- the own list of a slot -/
theorem own_lst {E : Ev} {B : Hp} {σ : L2.St} {H : Hp} {δ : Env} {i : Nat} {ds : List D} (j : J G S E B σ H δ) (hi : i ∈ S) (e : δ[i]? = some (some (.lst ds))) : ∃ p xs, σ[i]? = some (some (.ref p)) ∧ E.fp i p ∧ Trk (E.fp i) H ∧ H p = some (.lst xs) ∧ Reps G (OS S E σ) H xs ds := by
  obtain ⟨p, d, e1, e2, _, r⟩ := j.ow i hi
  rw [e] at e2
  cases e2
  obtain ⟨xs, hp, q⟩ := r.lst
  exact ⟨p, xs, e1, r.1, r.2.1, hp, q⟩
theorem vget_of {δ : Env} {i : Nat} {d : D} (h : vget δ i = .ok d) : δ[i]? = some (some d) := by
  unfold vget at h
  split at h
  · rename_i q; cases h; exact q
  · cases h
/-- the reading of a name, as its slot -/
theorem pe_slot {i : Nat} {x : Str} {p : Pos} (o : Ok X G M c) (h : chkE c X.env.scope S (.var i) (.Name x p) = true) : PE X (.Name x p) (tVar i) := by
  simp only [chkE_var, Bool.and_eq_true, decide_eq_true_eq] at h
  have hp := plainN_of (List.all_eq_true.mp o.nn x (List.mem_of_getElem? h.1))
  exact pe_var (by rw [o.N]; exact h.1) (vis_of h.2) hp.1 hp.2.1
theorem own_ext {O : Addr → Prop} {H : Hp} {p : Addr} {xs : List V} (hO : O p) : Ext O H O (upd H p (.lst xs)) := fun a u e n => ⟨by rw [upd_ne (show a ≠ p from fun z => n (z ▸ hO))]; exact e, n⟩
theorem snd_seti {i : Nat} {k e : Ex} {x : Str} {z v : Expr} {px p2 pos : Pos} (o : Ok X G M c) (hi : i ∈ S) (hx : chkE c X.env.scope S (.var i) (.Name x px) = true) (hk : chkE c X.env.scope S k z = true) (he : chkE c X.env.scope S e v = true) (n : nb c S e = true) (nz : noSlice z = true) :
    SndS X G M S K (.seti i k e) (.Assign [.Subscript (.Name x px) z p2] v pos) (.live S) := by
  refine (ps_asg (sndE (M := M) e o he).pe (pg_sub (pe_slot o hx) (sndE (M := M) k o hk).pe set_list (asg_sub nz)) sws_sub ss_sub rfl).imp fun Dd σ H ⟨E, B, δ, fl, j, hf, q⟩ => ?_
  simp only [exS] at hf
  obtain ⟨d1, f1, hf⟩ := Rs.bind_ok hf
  obtain ⟨d2, f2, hf⟩ := Rs.bind_ok hf
  obtain ⟨d3, f3, hf⟩ := Rs.bind_ok hf
  obtain ⟨ds, ki, rfl, rfl⟩ : ∃ ds ki, d2 = .lst ds ∧ d3 = .int ki := by
    cases d2 <;> (try (cases hf; done)) <;> cases d3 <;> first | exact ⟨_, _, rfl, rfl⟩ | cases hf
  simp only at hf
  split at hf
  · rename_i m hm
    cases hf
    refine ⟨E, B, δ, d1, j, f1, fun v1 H1 s1 o1 => ?_⟩
    have j1 := j.same s1
    obtain ⟨p, xs, e1, fp, tf, hp, rr⟩ := own_lst j1 hi (vget_of f2)
    refine ⟨.ref p, e1, E, B, δ, _, j1, f3, fun v3 H3 s3 o3 => ?_⟩
    have j3 := j1.same s3
    have hp3 := s3 _ _ hp
    have r1 := (o1.f j.trk (nb_of n)).same s3
    have r3 := rr.same s3
    have oP : OS S E σ p := .inr ⟨i, hi, fp⟩
    have x3 := own_ext (H := H3) (xs := xs.set m v1) oP
    obtain ⟨j4, x4⟩ := j3.mut (o := .lst (xs.set m v1)) (d := .lst (ds.set m d1)) hi e1 (.mkL upd_same fp (trk_upd (tf.same s3) rfl) ((r3.ext x3).set m (r1.ext x3)))
    refine ⟨p, xs, ki, m, rfl, o3.int j1.trk, hp3, by rw [rr.length]; exact hm, ?_⟩
    exact q _ rfl E σ _ (Sm.refl E) j4 ((same_ext (s1.trans s3)).trans x4)
  · cases hf
theorem snd_puti {i : Nat} {k e : Ex} {x : Str} {z v : Expr} {px p2 pos : Pos} (o : Ok X G M c) (hi : i ∈ S) (hx : chkE c X.env.scope S (.var i) (.Name x px) = true) (hk : chkE c X.env.scope S k z = true) (he : chkE c X.env.scope S e v = true) (n : nb c S e = true) :
    SndS X G M S K (.puti i k e) (.Assign [.Subscript (.Name x px) z p2] v pos) (.live S) := by
  refine ⟨fun pins s σ H Dd I ⟨E, B, δ, fl, j, hf, q⟩ => ?_⟩
  simp only [exS] at hf
  obtain ⟨d1, f1, hf⟩ := Rs.bind_ok hf
  obtain ⟨d2, f2, hf⟩ := Rs.bind_ok hf
  obtain ⟨d3, f3, hf⟩ := Rs.bind_ok hf
  obtain ⟨t, kvs, rfl⟩ : ∃ t kvs, d2 = .dct t kvs := by
    cases d2 <;> first | exact ⟨_, _, rfl⟩ | cases hf
  simp only at hf
  split at hf
  · rename_i hz
    cases hf
    rw [Bool.and_eq_true, decide_eq_true_eq] at hz
    obtain ⟨p, d, e1, e2, _, ow⟩ := j.ow i hi
    rw [vget_of f2] at e2
    cases e2
    have fp := ow.1
    have oP : OS S E σ p := .inr ⟨i, hi, fp⟩
    refine wpAny_Assign_Subscript (thn ((sndE (M := M) e o he).pe.run pins s σ H (fun v1 H1 => Same H H1 ∧ Rep G (OS S E σ) H1 v1 d1) I ⟨E, B, δ, _, j, f1, fun v1 H1 s1 o1 => ⟨s1, o1.f j.trk (nb_of n)⟩⟩) fun r s1 ⟨v1, H1, I1, rv, h1, q1⟩ =>
      thn ((pe_slot o hx).run pins s1 σ H1 (fun x2 H2 => H2 = H1 ∧ x2 = .ref p) I1 ⟨_, e1, rfl, rfl⟩) fun u s2 ⟨x2, H2, I2, rx, eH, ex⟩ => ?_) sw_sub
    subst eH ex
    obtain rfl : u = Value.ref p := rx
    refine thn ((sndE (M := M) k o hk).pe.run pins s2 σ H2 (fun y H3 => Same H2 H3 ∧ RepB G (OS S E σ) H3 y d3) I2 ⟨E, B, δ, _, j.same h1, f3, fun y H3 s3 o3 => ⟨s3, o3.b (j.same h1).trk⟩⟩) fun iv s3 ⟨y, H3, I3, ry, h3, q3⟩ => ?_
    have hs := h1.trans h3
    obtain ⟨uo, hp, hm⟩ := ow.top
    refine d_setD o.hu I3 o.K o.w oP (ow.same hs) q3 hz.1 ry (q1.same h3) rv hz.2 fun o' s' hm' ow' I' => ⟨σ, _, I', ?_⟩
    obtain ⟨j4, x4⟩ := (j.same hs).mut hi e1 ow'
    exact q _ rfl E σ _ (Sm.refl E) j4 ((same_ext hs).trans x4)
  · cases hf
theorem snd_sdf {i : Nat} {k e : Ex} {x : Str} {z v : Expr} {px p p' pos : Pos} (o : Ok X G M c) (hl : (p.endLine == p'.line) = true) (hi : i ∈ S) (hx : chkE c X.env.scope S (.var i) (.Name x px) = true) (hk : chkE c X.env.scope S k z = true) (he : chkE c X.env.scope S e v = true) (n : nb c S e = true) (nz : noStar z = true) (nv : noStar v = true) :
    SndS X G M S K (.sdf i k e) (.Expr (.Call (.Attribute (.Name x px) "setdefault" p) [z, v] [] p') pos) (.live S) := by
  have pe : PE X (.Call (.Attribute (.Name x px) "setdefault" p) [z, v] [] p') (fun σ H Q => ∃ E B δ fl, J G S E B σ H δ ∧ exS M (.sdf i k e) δ = .ok fl ∧ ∀ δ' H', fl = .nx δ' → J G S E B σ H' δ' → Ext (OS S E σ) H (OS S E σ) H' → ∀ v', Q v' H') := by
    refine ⟨fun pins s σ H Q I ⟨E, B, δ, fl, j, hf, q⟩ => ?_⟩
    simp only [exS] at hf
    obtain ⟨d2, f2, hf⟩ := Rs.bind_ok hf
    obtain ⟨d3, f3, hf⟩ := Rs.bind_ok hf
    obtain ⟨d1, f1, hf⟩ := Rs.bind_ok hf
    obtain ⟨t, kvs, rfl⟩ : ∃ t kvs, d2 = .dct t kvs := by
      cases d2 <;> first | exact ⟨_, _, rfl⟩ | cases hf
    simp only at hf
    split at hf
    · rename_i hz
      cases hf
      rw [Bool.and_eq_true, decide_eq_true_eq] at hz
      obtain ⟨p, d, e1, e2, _, ow⟩ := j.ow i hi
      rw [vget_of f2] at e2
      cases e2
      have fp := ow.1
      have oP : OS S E σ p := .inr ⟨i, hi, fp⟩
      obtain ⟨uo, hp, hm⟩ := ow.top
      refine wpAny_Call_method rfl (by rw [tr2 nz nv]; rfl) hl PySem.F.plainAttrs_dict PySem.F.slot_dict_setdefault PySem.F.type_dict_setdefault (thn ((pe_slot o hx).run pins s σ H (fun x2 H2 => H2 = H ∧ x2 = .ref p) I ⟨_, e1, rfl, rfl⟩) fun u s1 ⟨x2, H1, I1, rx, eH, ex⟩ => ?_)
      subst eH ex
      obtain rfl : u = Value.ref p := rx
      obtain ⟨p1, ep, _, ty, nd, hd, _⟩ := d_isDict (u := .ref p) I1 o.K o.w (.inr ⟨p, E.fp i, rfl, fun a f => .inr ⟨i, hi, f⟩, ow⟩) rfl
      cases ep
      refine ⟨ty, nd, ?_⟩
      rw [tr2 nz nv]
      refine Calls.callWith_builtin rfl (Calls.evalArgs_plain (Calls.spliced_cons (thn ((sndE (M := M) k o hk).pe.run pins s1 σ H1 (fun y H3 => Same H1 H3 ∧ RepB G (OS S E σ) H3 y d3) I1 ⟨E, B, δ, _, j, f3, fun y H3 s3 o3 => ⟨s3, o3.b j.trk⟩⟩) fun iv s2 ⟨y, H2, I2, ry, h2, q2⟩ =>
        Calls.spliced_cons (thn ((sndE (M := M) e o he).pe.run pins s2 σ H2 (fun v3 H3 => Same H2 H3 ∧ Rep G (OS S E σ) H3 v3 d1) I2 ⟨E, B, δ, _, j.same h2, f1, fun v3 H3 s3 o3 => ⟨s3, o3.f (j.same h2).trk (nb_of n)⟩⟩) fun fv s3 ⟨v3, H3, I3, rv, h3, q3⟩ => Calls.spliced_nil ?_))))
      have hs := h2.trans h3
      refine d_sdfD o.hu I3 o.K o.w oP (ow.same hs) (q2.same h3) hz.1 ry q3 rv hz.2 fun o' w' s' hm' ow' I' ⟨v', rv'⟩ => ⟨v', _, I', rv', ?_⟩
      obtain ⟨j4, x4⟩ := (j.same hs).mut hi e1 ow'
      exact q _ _ rfl j4 ((same_ext hs).trans x4) v'
    · cases hf
  refine (ps_expr pe rfl).imp fun Dd σ H ⟨E, B, δ, fl, j, hf, q⟩ => ?_
  obtain ⟨δ', rfl⟩ : ∃ δ', fl = .nx δ' := by
    simp only [exS] at hf
    obtain ⟨d2, _, hf⟩ := Rs.bind_ok hf
    obtain ⟨d3, _, hf⟩ := Rs.bind_ok hf
    obtain ⟨d1, _, hf⟩ := Rs.bind_ok hf
    cases d2 <;> try (cases hf; done)
    simp only at hf
    split at hf
    · cases hf; exact ⟨_, rfl⟩
    · cases hf
  exact ⟨E, B, δ, _, j, hf, fun δ'' H' e j' x' v' => by cases e; exact q _ rfl E σ H' (Sm.refl E) j' x'⟩
theorem few {e : Expr} {env : PySem.Env} {p : Pos} (h : noStar e = true) : ((backTo p (starEach [e] env)).all (fun x => !x.1) && (backToKw p (keywordEach [] env)).all (fun x => x.1.isSome)
      && decide (([e] : List Expr).length + ([] : List Keyword).length + (if ([] : List Keyword).isEmpty then 0 else 1) < 30)) = true := by
  rw [starEach_cons h]; rfl
theorem snd_app {i : Nat} {e : Ex} {x : Str} {v : Expr} {px p p' pos : Pos} (o : Ok X G M c) (hln : (p.endLine == p'.endLine || p.endLine == p'.line) = true) (hl : (p.endLine == p'.line) = true) (hi : i ∈ S) (hx : chkE c X.env.scope S (.var i) (.Name x px) = true) (he : chkE c X.env.scope S e v = true) (n : nb c S e = true) (nv : noStar v = true) :
    SndS X G M S K (.app i e) (.Expr (.Call (.Attribute (.Name x px) "append" p) [v] [] p') pos) (.live S) := by
  refine (ps_expr (pe_bm PySem.F.plainAttrs_list PySem.F.slot_list_append PySem.F.type_list_append mt_append (pe_slot o hx) (pa_cons (sndE (M := M) e o he).pe pa_nil (starEach_cons nv)) rfl (few nv) hl (starEach_cons nv) rfl) rfl).imp fun Dd σ H ⟨E, B, δ, fl, j, hf, q⟩ => ?_
  simp only [exS] at hf
  obtain ⟨d1, f1, hf⟩ := Rs.bind_ok hf
  obtain ⟨d2, f2, hf⟩ := Rs.bind_ok hf
  obtain ⟨ds, rfl⟩ : ∃ ds, d1 = .lst ds := by
    cases d1 <;> first | exact ⟨_, rfl⟩ | cases hf
  simp only at hf
  split at hf
  · rename_i hz
    cases hf
    obtain ⟨p, xs, e1, fp, tf, hp, rr⟩ := own_lst j hi (vget_of f1)
    refine ⟨.ref p, e1, .inl ⟨rfl, _, SqL.of hp⟩, E, B, δ, d2, j, f2, fun v2 H2 s2 o2 => ?_⟩
    have j2 := j.same s2
    have hp2 := s2 _ _ hp
    have r2 := o2.f j.trk (nb_of n)
    have oP : OS S E σ p := .inr ⟨i, hi, fp⟩
    have x3 := own_ext (H := H2) (xs := xs ++ [v2]) oP
    obtain ⟨j4, x4⟩ := j2.mut (o := .lst (xs ++ [v2])) (d := .lst (ds ++ [d2])) hi e1 (.mkL upd_same fp (trk_upd (tf.same s2) rfl) (((rr.same s2).ext x3).append (.cons (r2.ext x3) .nil)))
    exact ⟨p, xs, v2, rfl, rfl, hp2, by rw [rr.length]; exact hz, q _ rfl E σ _ (Sm.refl E) j4 ((same_ext s2).trans x4)⟩
  · cases hf
/-- an inner list is made longer -/
theorem own_apn {G : Wd} {O F : Addr → Prop} {H : Hp} {p a : Addr} {qs : List Addr} {dss : List (List D)} {m : Nat} {ys : List V} {ds : List D} {v : V} {d : D} (fp : F p) (tf : Trk F H) (hp : H p = some (.lst (qs.map V.ref))) (L : InnL G O F H p qs dss) (hF : ∀ a, F a → O a) (ha : qs[m]? = some a) (hd : dss[m]? = some ds) (hy : H a = some (.lst ys)) (ry : Reps G O H ys ds) (rv : Rep G O H v d) :
    Own G O F (upd H a (.lst (ys ++ [v]))) p (.nst ((dss.map D.lst).set m (.lst (ds ++ [d])))) := by
  obtain ⟨nd, hl, L⟩ := L
  obtain ⟨na, fa, _⟩ := L m a ds ha hd
  have x : Ext O H O (upd H a (.lst (ys ++ [v]))) := fun b u e n => ⟨by rw [upd_ne fun z => n (by rw [z]; exact hF a fa)]; exact e, n⟩
  refine ⟨fp, trk_upd tf rfl, .inr (.inr (.inr (.inl ⟨qs, dss.set m (ds ++ [d]), by rw [List.map_set], by rw [upd_ne (Ne.symm na)]; exact hp, nd, by rw [List.length_set]; exact hl, fun i b es e1 e2 => ?_⟩)))⟩
  by_cases c : m = i
  · subst c
    rw [ha] at e1
    cases e1
    rw [List.getElem?_set_self (List.getElem?_eq_some_iff.mp hd).1] at e2
    cases e2
    exact ⟨na, fa, _, upd_same, (ry.ext x).append (.cons (rv.ext x) .nil)⟩
  · rw [List.getElem?_set_ne c] at e2
    obtain ⟨a1, a2, zs, a3, a4⟩ := L i b es e1 e2
    have nb : b ≠ a := fun z => by
      subst z
      have h1 := (List.getElem?_eq_some_iff.mp e1)
      have h2 := (List.getElem?_eq_some_iff.mp ha)
      obtain ⟨l1, g1⟩ := h1
      obtain ⟨l2, g2⟩ := h2
      exact c ((List.getElem_inj nd).mp (g2.trans g1.symm))
    exact ⟨a1, a2, zs, by rw [upd_ne nb]; exact a3, a4.ext x⟩
theorem snd_apn {i : Nat} {k e : Ex} {x : Str} {z v : Expr} {px pz p p' pos : Pos} (o : Ok X G M c) (hl : (p.endLine == p'.line) = true) (hi : i ∈ S) (hx : chkE c X.env.scope S (.var i) (.Name x px) = true) (hk : chkE c X.env.scope S k z = true) (ns : noSlice z = true) (he : chkE c X.env.scope S e v = true) (n : nb c S e = true) (nv : noStar v = true) :
    SndS X G M S K (.apn i k e) (.Expr (.Call (.Attribute (.Subscript (.Name x px) z pz) "append" p) [v] [] p') pos) (.live S) := by
  have hr := pe_ix (pos := pz) (ix_list (X := X)) (pe_slot o hx) (sndE (M := M) k o hk).pe (plainIx ns)
  refine (ps_expr (pe_bm PySem.F.plainAttrs_list PySem.F.slot_list_append PySem.F.type_list_append mt_append hr (pa_cons (sndE (M := M) e o he).pe pa_nil (starEach_cons nv)) rfl (few nv) hl (starEach_cons nv) rfl) rfl).imp fun Dd σ H ⟨E, B, δ, fl, j, hf, q⟩ => ?_
  simp only [exS] at hf
  obtain ⟨d1, f1, hf⟩ := Rs.bind_ok hf
  obtain ⟨d2, f2, hf⟩ := Rs.bind_ok hf
  obtain ⟨d3, f3, hf⟩ := Rs.bind_ok hf
  obtain ⟨ds, ki, rfl, rfl⟩ : ∃ ds ki, d1 = .nst ds ∧ d2 = .int ki := by
    cases d1 <;> (try (cases hf; done)) <;> cases d2 <;> first | exact ⟨_, _, rfl, rfl⟩ | cases hf
  simp only at hf
  split at hf
  · rename_i m hm
    split at hf
    · rename_i es hes
      split at hf
      · rename_i hz
        cases hf
        obtain ⟨p0, d0, e1, e2, _, ow⟩ := j.ow i hi
        rw [vget_of f1] at e2
        cases e2
        obtain ⟨qs, dss, rfl, hp, L⟩ := ow.nst
        rw [List.length_map] at hm
        rw [List.getElem?_map] at hes
        obtain ⟨es', hds, ees⟩ := Option.map_eq_some_iff.mp hes
        cases ees
        have hq : m < qs.length := by rw [L.2.1]; exact (List.getElem?_eq_some_iff.mp hds).1
        have ha : qs[m]? = some qs[m] := List.getElem?_eq_getElem hq
        have hF : ∀ a, E.fp i a → OS S E σ a := fun a f => .inr ⟨i, hi, f⟩
        refine ⟨.ref p0, e1, E, B, δ, .int ki, j, f2, fun v2 H2 s2 o2 => ?_⟩
        have L2' := L.2.2 m qs[m] es ha hds
        obtain ⟨na, fa, ys, hy, ry⟩ := L2'
        have hp2 := s2 _ _ hp
        have hy2 := s2 _ _ hy
        refine ⟨p0, qs.map V.ref, ki, .ref qs[m], rfl, o2.int j.trk, .inl (.inl hp2), ?_, .inl ⟨rfl, _, SqL.of hy2⟩, E, B, δ, d3, j.same s2, f3, fun v3 H3 s3 o3 => ?_⟩
        · unfold atI
          rw [List.length_map, L.2.1, hm]
          show (qs.map V.ref)[m]? = _
          rw [List.getElem?_map, ha]; rfl
        · have j3 := (j.same s2).same s3
          have hp3 := s3 _ _ hp2
          have hy3 := s3 _ _ hy2
          have s23 := s2.trans s3
          have r3 := o3.f (j.same s2).trk (nb_of n)
          obtain ⟨_, _, _, e3, _, ow3⟩ := j3.ow i hi
          rw [vget_of f1] at e3
          cases e3
          have L3 : InnL G (OS S E σ) (E.fp i) H3 p0 qs dss := ⟨L.1, L.2.1, fun i' a' ds' e1' e2' => by
            obtain ⟨b1, b2, zs, b3, b4⟩ := L.2.2 i' a' ds' e1' e2'
            exact ⟨b1, b2, zs, s23 _ _ b3, b4.same s23⟩⟩
          have own' := own_apn ow.1 (ow.2.1.same s23) hp3 L3 hF ha hds hy3 (ry.same s23) r3
          obtain ⟨j4, x4⟩ := j3.mutG (H' := upd H3 qs[m] (.lst (ys ++ [v3]))) (F' := E.fp i) (d := .nst ((dss.map D.lst).set m (.lst (es ++ [d3])))) hi e1 (fun a u e nf => by rw [upd_ne fun z => nf (by rw [z]; exact fa)]; exact e) (fun a f => .inl f) (by rw [setF_self]; exact own')
          rw [setF_self] at j4 x4
          refine ⟨qs[m], ys, v3, rfl, rfl, hy3, by rw [ry.length]; exact hz, q _ rfl E σ _ (Sm.refl E) j4 ((same_ext s23).trans x4)⟩
      · cases hf
    · cases hf
  · cases hf
theorem reps_dropLast {O : Addr → Prop} {H : Hp} : ∀ {vs : List V} {ds : List D}, Reps G O H vs ds → Reps G O H vs.dropLast ds.dropLast
  | _, _, .nil => .nil
  | _, _, .cons h .nil => .nil
  | _, _, .cons h (.cons h2 r) => .cons h (reps_dropLast (.cons h2 r))
theorem snd_popu {is : List Nat} {es : List Expr} {kk i : Nat} {x : Str} {px p p' pt pos : Pos} (o : Ok X G M c) (so : SOk X W) (hs : stsB c X.env.scope is es = true) (hl : (p.endLine == p'.line) = true) (hi : i ∈ S) (hn : i ∉ is) (hx : chkE c X.env.scope S (.var i) (.Name x px) = true) :
    SndS X G M S K (.popu is i) (.Assign [.Tuple es kk pt] (.Call (.Attribute (.Name x px) "pop" p) [] [] p') pos) (.live (remL S is)) := by
  have ht : TgOk X (.many is) (.Tuple es kk pt) := ⟨_, _, _, rfl, stsB_of o.N so.fn hs⟩
  refine (ps_asg (pe_bm0 PySem.F.plainAttrs_list PySem.F.slot_list_pop PySem.F.type_list_pop mt_pop (pe_slot o hx) rfl hl) (pg_all (S := remL S is) (tg := .many is) o.K (nd_of o) o.warm ht fun i hi => remL_out hi) sws_tup (ss_tup rfl) rfl).imp fun Dd σ H ⟨E, B, δ, fl, j, hf, k⟩ => ?_
  simp only [exS] at hf
  obtain ⟨d1, f1, hf⟩ := Rs.bind_ok hf
  obtain ⟨ds, rfl⟩ : ∃ ds, d1 = .lst ds := by
    cases d1 <;> first | exact ⟨_, rfl⟩ | cases hf
  simp only at hf
  split at hf
  · rename_i d hd
    obtain ⟨δ', f2, hf⟩ := Rs.bind_ok hf
    cases hf
    obtain ⟨p, xs, e1, fp, tf, hp, rr⟩ := own_lst j hi (vget_of f1)
    have oP : OS S E σ p := .inr ⟨i, hi, fp⟩
    have x3 := own_ext (H := H) (xs := xs.dropLast) oP
    have lx := rr.length
    obtain ⟨y, hy, ry⟩ := rr.get hd
    obtain ⟨j4, x4⟩ := j.mut (o := .lst xs.dropLast) (d := .lst ds.dropLast) hi e1 (.mkL upd_same fp (trk_upd tf rfl) (reps_dropLast (rr.ext x3)))
    refine ⟨.ref p, e1, .inl ⟨rfl, _, SqL.of hp⟩, p, xs, y, rfl, rfl, hp, by rw [← hy, lx], ?_⟩
    have j5 := j4.weak (remL_sub (is := is))
    refine ⟨E, B, _, d, δ', j5, (ry.ext x3).less fun a o => OS_sub remL_sub o, f2, fun σ' j2 _ eO => k _ rfl E σ' _ (Sm.refl E) j2 ?_⟩
    rw [eO]
    exact x4.trans (ext_weak remL_sub)
  · cases hf
theorem snd_ext {i : Nat} {e : Ex} {x : Str} {v : Expr} {px p p' pos : Pos} (o : Ok X G M c) (hl : (p.endLine == p'.line) = true) (hi : i ∈ S) (hx : chkE c X.env.scope S (.var i) (.Name x px) = true) (he : chkE c X.env.scope S e v = true) (n : md c S e = .new) (nv : noStar v = true) :
    SndS X G M S K (.ext i e) (.Expr (.Call (.Attribute (.Name x px) "extend" p) [v] [] p') pos) (.live S) := by
  refine (ps_expr (pe_bm PySem.F.plainAttrs_list PySem.F.slot_list_extend PySem.F.type_list_extend mt_extend (pe_slot o hx) (pa_cons (sndE (M := M) e o he).pe pa_nil (starEach_cons nv)) rfl (few nv) hl (starEach_cons nv) rfl) rfl).imp fun Dd σ H ⟨E, B, δ, fl, j, hf, q⟩ => ?_
  simp only [exS] at hf
  obtain ⟨d1, f1, hf⟩ := Rs.bind_ok hf
  obtain ⟨d2, f2, hf⟩ := Rs.bind_ok hf
  obtain ⟨ds, es, rfl, rfl⟩ : ∃ ds es, d1 = .lst ds ∧ d2 = .lst es := by
    cases d1 <;> (try (cases hf; done)) <;> cases d2 <;> first | exact ⟨_, _, rfl, rfl⟩ | cases hf
  simp only at hf
  split at hf
  · rename_i hz
    cases hf
    obtain ⟨p, xs, e1, fp, tf, hp, rr⟩ := own_lst j hi (vget_of f1)
    refine ⟨.ref p, e1, .inl ⟨rfl, _, SqL.of hp⟩, E, B, δ, .lst es, j, f2, fun v2 H2 s2 o2 => ?_⟩
    have j2 := j.same s2
    have hp2 := s2 _ _ hp
    rw [n] at o2
    obtain ⟨p2, zs, rfl, hz2, rz⟩ : ∃ p2 zs, v2 = .ref p2 ∧ H2 p2 = some (.lst zs) ∧ Reps G (OS S E σ) H2 zs es := by
      rcases o2 with ⟨p2, F2, e2, _, r⟩ | ⟨q2, _⟩
      · obtain ⟨zs, hq, r⟩ := r.lst
        exact ⟨p2, zs, e2, hq, r.ext (less_ext fun a o => .inl o)⟩
      · cases q2
    have oP : OS S E σ p := .inr ⟨i, hi, fp⟩
    have x3 := own_ext (H := H2) (xs := xs ++ zs) oP
    obtain ⟨j4, x4⟩ := j2.mut (o := .lst (xs ++ zs)) (d := .lst (ds ++ es)) hi e1 (.mkL upd_same fp (trk_upd (tf.same s2) rfl) (((rr.same s2).ext x3).append (rz.ext x3)))
    exact ⟨p, p2, xs, zs, rfl, rfl, hp2, hz2, by rw [rr.length, rz.length]; exact hz, q _ rfl E σ _ (Sm.refl E) j4 ((same_ext s2).trans x4)⟩
  · cases hf
theorem snd_aug {i : Nat} {op : Bop} {e : Ex} {x : Str} {v : Expr} {px pos : Pos} (o : Ok X G M c) (so : SOk X W) (hs : stB c X.env.scope i x = true) (hi : i ∉ S) (ho : op.py = .Add ∨ op.py = .Sub ∨ op.py = .Mult) (he : chkE c X.env.scope S e v = true) :
    SndS X G M S K (.aug i op e) (.AugAssign (.Name x px) op.py v pos) (.live S) := by
  obtain ⟨h1, h2, h3⟩ := stB_of (p := px) o.N so.fn hs
  have hop : PIp X op.py (fun x y H Q => ∃ a b r, x = .int a ∧ y = .int b ∧ dBin op (.int a) (.int b) = .ok r ∧ ∀ z, r = .int z → Q (.int z) H) := by
    intro pins s σ H x y v u Q I rx ry h
    obtain ⟨a, b, r, rfl, rfl, hr, q⟩ := h
    cases op <;> try (rcases ho with z | z | z <;> cases z; done)
    · cases hr
      exact iop_add pins s σ H _ _ v u Q I rx ry ⟨_, _, rfl, rfl, q _ rfl⟩
    · cases hr
      exact iop_sub pins s σ H _ _ v u Q I rx ry ⟨_, _, rfl, rfl, q _ rfl⟩
    · simp only [dBin] at hr
      split at hr
      · rename_i hz
        cases hr
        exact iop_mul pins s σ H _ _ v u Q I rx ry ⟨_, _, rfl, rfl, hz, q _ rfl⟩
      · cases hr
  refine (ps_aug (nd_of o) h1 h2 (sndE (M := M) e o he).pe hop h3).imp fun Dd σ H ⟨E, B, δ, fl, j, hf, q⟩ => ?_
  simp only [exS] at hf
  obtain ⟨d1, f1, hf⟩ := Rs.bind_ok hf
  obtain ⟨d2, f2, hf⟩ := Rs.bind_ok hf
  obtain ⟨a, b, rfl, rfl⟩ : ∃ a b, d1 = .int a ∧ d2 = .int b := by
    cases d1 <;> (try (cases hf; done)) <;> cases d2 <;> first | exact ⟨_, _, rfl, rfl⟩ | cases hf
  obtain ⟨r, f3, hf⟩ := Rs.bind_ok (x := dBin op (.int a) (.int b)) hf
  cases hf
  obtain ⟨v0, e0, r0⟩ := j.fz i _ hi (vget_of f1)
  cases r0
  refine ⟨.int a, e0, E, B, δ, .int b, j, f2, fun v2 H2 s2 o2 => ⟨a, b, r, rfl, o2.int j.trk, f3, fun z hz => ?_⟩⟩
  subst hz
  refine q _ rfl E _ H2 (Sm.refl E) ((j.same s2).set hi (.int z)) ?_
  rw [OS_set hi]
  exact same_ext s2
theorem isVar_of {e : Ex} (h : isVar e = true) : ∃ i, e = .var i := by
  cases e <;> first | exact ⟨_, rfl⟩ | cases h
theorem snd_ret {e : Ex} {v : Expr} {pos : Pos} (o : Ok X G M c) (he : chkE c X.env.scope S e v = true) (hr : retB c S K.ret e = true) : SndS X G M S K (.ret e) (.Return (some v) pos) .dead := by
  obtain ⟨L, XL, ret, W⟩ := K
  by_cases hb : md c S e = .bor
  · -- an own list of the def's
    obtain ⟨i, rfl⟩ : ∃ i, e = .var i := isVar_of (by
      cases ret with
      | frz =>
        have h' : (decide (md c S e ≠ .bor) || isVar e) = true := hr
        rw [hb] at h'; simpa using h'
      | new =>
        have h' : (decide (md c S e = .new) || (decide (md c S e = .bor) && isVar e) || isCst e) = true := hr
        rw [hb] at h'
        have h2 : isCst e = false := by
          cases e <;> first | rfl | (exact absurd (show Mo.frz = Mo.bor from hb) (by decide))
        rw [h2] at h'
        simpa using h'
      | chg => cases hr)
    cases v <;> try (cases he; done)
    have hi : i ∈ S := by
      by_cases q : i ∈ S
      · exact q
      · rw [md, if_neg q] at hb; cases hb
    refine (ps_ret (pe_slot o he)).imp fun Dd σ H ⟨E, B, δ, fl, j, hf, q⟩ => ?_
    simp only [exS] at hf
    obtain ⟨d, f1, hf⟩ := Rs.bind_ok hf
    cases hf
    obtain ⟨p, d', e1, e2, ne, r⟩ := j.ow i hi
    rw [vget_of f1] at e2
    cases e2
    have q : RtK ret G E B d Dd := q
    cases ret with
    | frz =>
      refine ⟨.ref p, e1, q _ H j.sameB ?_⟩
      exact (r.less fun a o => .inl o).rep ne
    | new =>
      refine ⟨.ref p, e1, q _ H j.sameB ?_⟩
      refine .inl ⟨p, E.fp i, rfl, fun a f => ?_, r.less fun a o => ?_⟩
      · cases q2 : B a with
        | none => rfl
        | some u => exact absurd ⟨i, hi, f⟩ (j.bs a u q2).2
      · rcases o with o | o
        · exact .inl o
        · exact .inr ⟨i, hi, o⟩
    | chg => cases hr
  · refine (ps_ret (sndE (M := M) e o he).pe).imp fun Dd σ H ⟨E, B, δ, fl, j, hf, q⟩ => ?_
    simp only [exS] at hf
    obtain ⟨d, f1, hf⟩ := Rs.bind_ok hf
    cases hf
    have q : RtK ret G E B d Dd := q
    cases ret with
    | frz => exact ⟨E, B, δ, d, j, f1, fun v1 H1 s1 o1 => q v1 H1 (j.sameB.trans s1) ((o1.f j.trk hb).less fun a o => .inl o)⟩
    | new =>
      refine ⟨E, B, δ, d, j, f1, fun v1 H1 s1 o1 => q v1 H1 (j.sameB.trans s1) ?_⟩
      have hr' : md c S e = .new ∨ isCst e = true := by
        have hr2 : (decide (md c S e = .new) || (decide (md c S e = .bor) && isVar e) || isCst e) = true := hr
        rw [Bool.or_eq_true, Bool.or_eq_true, Bool.and_eq_true, decide_eq_true_eq, decide_eq_true_eq] at hr2
        rcases hr2 with (hr | hr) | hr
        · exact .inl hr
        · exact absurd hr.1 hb
        · exact .inr hr
      rcases hr' with hn | hc
      · rw [hn] at o1
        rcases o1 with ⟨p, F, rfl, hp, r⟩ | ⟨hm, r⟩
        · refine .inl ⟨p, F, rfl, fun a f => ?_, r.less fun a o => o.elim (fun z => .inl (.inl z)) .inr⟩
          cases q2 : B a with
          | none => rfl
          | some u =>
            have := j.sameB a u q2
            rw [hp a f] at this; cases this
        · exact .inr ⟨hm, r.less fun a o => .inl o⟩
      · obtain ⟨k, rfl⟩ : ∃ k, e = .cst k := by
          cases e <;> first | exact ⟨_, rfl⟩ | (exact absurd hc Bool.false_ne_true)
        cases f1
        refine .inr ⟨by cases k <;> rfl, ?_⟩
        have r := o1.f j.trk hb
        exact r.less fun a o => .inl o
    | chg => cases hr
theorem snd_retN {pos : Pos} (hr : K.ret ≠ .chg) : SndS X G M S K .retN (.Return none pos) .dead :=
  ps_retN.imp fun Dd σ H ⟨E, B, δ, fl, j, hf, q⟩ => by
    cases hf
    obtain ⟨L, XL, ret, W⟩ := K
    have q : RtK ret G E B .non Dd := q
    cases ret with
    | frz => exact q .non H j.sameB Rep.non
    | new => exact q .non H j.sameB (.inr ⟨rfl, .non⟩)
    | chg => exact absurd rfl hr
/-- return x_j, the first argument changed -/
theorem snd_retM {jj : Nat} {x : Str} {px pos : Pos} (o : Ok X G M c) (hr : K.ret = .chg) (h0 : 0 ∈ S) (hj : jj ∈ S) (hn : jj ≠ 0) (he : chkE c X.env.scope S (.var jj) (.Name x px) = true) : SndS X G M S K (.retM jj) (.Return (some (.Name x px)) pos) .dead := by
  refine (ps_ret (pe_slot o he)).imp fun Dd σ H ⟨E, B, δ, fl, j, hf, q⟩ => ?_
  simp only [exS] at hf
  obtain ⟨d, f1, hf⟩ := Rs.bind_ok hf
  obtain ⟨d0, f0, hf⟩ := Rs.bind_ok hf
  cases hf
  obtain ⟨p, d', e1, e2, ne, r⟩ := j.ow jj hj
  rw [vget_of f1] at e2
  cases e2
  obtain ⟨p0, d0', e3, e4, ne0, r0⟩ := j.ow 0 h0
  rw [vget_of f0] at e4
  cases e4
  have q' : RtK K.ret G E B (.tup [d, d0]) Dd := q
  rw [hr] at q'
  have hB : ∀ i, i ∈ S → ∀ a, E.fp i a → B a = none := fun i hi a f => by
    cases q2 : B a with
    | none => rfl
    | some u => exact absurd ⟨i, hi, f⟩ (j.bs a u q2).2
  refine ⟨.ref p, e1, q' d d0 p0 _ (E.fp 0) H rfl (fun q hq => ?_) j.sameB (fun a f => ⟨hB 0 h0 a f, ne0 a f⟩) (r0.less fun a o => ?_) (.inl ⟨p, E.fp jj, rfl, fun a f => ⟨hB jj hj a f, fun g => j.dj jj 0 hj h0 hn a f g, ne a f⟩, r.less fun a o => ?_⟩)⟩
  · have := j.pz q hq h0
    rw [e3] at this
    cases this; rfl
  · rcases o with o | o
    · exact .inl o
    · exact .inr ⟨0, h0, o⟩
  · rcases o with (o | o) | o
    · exact .inl o
    · exact .inr ⟨0, h0, o⟩
    · exact .inr ⟨jj, hj, o⟩
end
end PV
set_option maxHeartbeats 4000000
namespace PV
open PySem PySem.Spec PyProof.Rows L2

/-! ### an exception is made: its context is None -/
theorem pmk_n {X : Cx} {CX : CXT} {x : Str} {e : Expr} {es : List Expr} {ta : TA} {p pos : Pos} {C fI : Addr} {k : Nat} {fd : FuncData} {ps : List Str} {sp : Sp} (T : OexC X.K C) (iC : PySem.W.findIn X.K (.ref C) "__init__" = some (some (.ref fI))) (tI : PySem.W.typeIn X.K (.ref fI) = some (.type "function"))
    (F1 : FnOk X.prog X.w X.K X.mg X.base CX k fI fd ps sp) (hr : Room (k + 1) X.A) (hb : Binds X.K fd ps []) (hx : Passes CX X (fun _ _ _ => False)) (hg : Gl X x) (hm : X.mg x = some (.ref C)) (ha : PA X (e :: es) ta)
    (hdb : (x == ("__debug__" : Str)) = false) (he : starEach (e :: es) X.env = (false, eval e X.env) :: starEach es X.env) (hpl : (backTo pos (starEach es X.env)).any (·.1) = false) : L2N.PMk X (.Call (.Name x p) (e :: es) [] pos) (tMkO C sp [] ta) := by
  intro pins s σ H Q I h
  obtain ⟨nm, q, N, bs, bm, sn, sub, ab, col, dd, k0, k1, k2, k3, k5, hC, hbm⟩ := T.cls
  refine wpAny_Call_Name_kw (ld_glob I hg hm (PySem.W.callWith_K (h₀ := X.base) I.ok.mod.kin T.kC (thn (ha.run pos pins s σ H _ I h) fun us s1 ⟨vs, H1, I1, r1, hz, q1⟩ => ⟨I1.kIn, ?_⟩) he hpl) hdb)
  obtain ⟨hp, g, dr, tk, os⟩ := s1
  obtain ⟨a, ea⟩ : ∃ a, a = hp.objs.size + 1 := ⟨_, rfl⟩
  have hsz : hp.objs.size ≤ a := by omega
  have hn : H1 a = none := I1.hok.fresh hsz
  have w := q1 a hn
  rw [List.append_nil] at w
  obtain ⟨hp2, e2⟩ : ∃ z, z = (hp.push (PySem.W.kdv_tup us)).push (PySem.HandSPX.excO C hp.objs.size) := ⟨_, rfl⟩
  have kk : ∀ b o, hp.get? b = some o → hp2.get? b = some o := fun b o z => by rw [e2]; exact Heap.get?_push_of_some _ (Heap.get?_push_of_some _ z)
  have hget : hp2.get? a = some (PySem.HandSPX.excO C hp.objs.size) := by rw [e2, ea]; heap_get
  have I2 : Inv X pins σ (upd H1 a (exo a C none)) ⟨hp2, g, dr, tk, os⟩ := I1.laid (t' := tk) kk hsz (exo_ok hget)
  have r2 : Vals (V.ref a :: vs) (Value.ref a :: us) := .cons rfl r1
  have hl : (Value.ref a :: us).length = ps.length := r2.length.symm.trans (F1.len _ _ _ _ w)
  have hus : us.length ≤ sizeLine := by
    rw [← Paired.length r1, sizeLine_eq]
    omega
  have bb := hb ⟨hp2, g, dr, tk, os⟩ (Value.ref a :: us) I2.kIn (by rw [List.append_nil]; exact hl)
  rw [List.append_nil] at bb
  have run := F1.run _ X.stack _ _ ⟨Value.ref a :: us, []⟩ _ _ _ (fun _ _ _ => False) (hr.make C us []) (I2.env0.make C us []) bb r2 w
  show wpAny _ _ (call (.ref C) us) _ _ _
  refine wpAny_call (PySem.HandSPX.call_own F.excBase_ValueError (fun Y => PySem.HandSPX.refsVE_contains Y bm hbm) (I1.kIn _ _ hC) (PySem.W.looks_findIn I1.kIn iC) (fun self => PySem.W.bind_fn I1.kIn self tI) hus ?_)
  rw [← ea, ← e2]
  refine codeAny_mono run fun r t ht => ?_
  cases r with
  | error z => exact hx pins σ _ _ z t I2 ht
  | ok fl =>
    cases fl with
    | ret u =>
      obtain ⟨v, H2, o2, b2, un, ok2, rv, ev, d, fs, x1, x2, x3, x4⟩ := ht
      subst ev
      obtain ⟨h2, g2, d2, t2, os2⟩ := t
      obtain ⟨t0, h3, J, kG, ge, ho, na⟩ := mk_end0 (d2 := d2) (t2 := t2) I1 hsz kk un ok2 o2 b2 x1 x2 x3
      exact ⟨rv, ⟨a, _, _, ⟨h3, g2, d2, t2, os2⟩, _, .ref C, some d, rfl, J, kG, ge, ho, ⟨rfl, rfl, fun vs hv => by cases hv; rfl⟩, rfl, rfl, na, rfl, b2, raises_own T.exC T.tyC, x4⟩⟩
    | _ => exact False.elim ht
section
variable {X : Cx} {G : Wh} {M : Mn} {c : Cn} {S : List Nat} {K : Kx}
/-- raise X(n) -/
theorem snd_rse {k : Nat} {e : Ex} {x : Str} {v : Expr} {p1 p2 p3 : Pos} (o : Ok X G M c) (so : SOk X K.W) (hh : c.hot = false) (hk : (k, x) ∈ c.xr) (hg : glb X.env.scope x = true) (hp : plainN x = true) (he : chkE c X.env.scope S e v = true) (n : noStar v = true) (hX : ∀ i ∈ K.XL, i ∈ S) :
    SndS X G M S K (.rse k e) (.Raise (some (.Call (.Name x p1) [v] [] p2)) none p3) .dead := by
  obtain ⟨f, fI, fd, ps, sp, kk, CX, a1, a2, a3, a4, a5, a6, a7, a8, a9, a10⟩ := o.xr k x hk hh
  have mk := pmk_n (p := p1) (pos := p2) a3 a4 a5 a6 a7 a8 (a9 X rfl rfl) (glb_of hg) a2 (pa_cons (sndE (M := M) e o he).pe pa_nil (starEach_cons n)) (plainN_of hp).1 (starEach_cons n) (starEach_none rfl)
  refine (L2N.ps_raise (pos := p3) (o.cm hh) so.tk mk).imp fun Dd σ H ⟨E, B, δ, fl, j, hf, w⟩ => ?_
  simp only [exS] at hf
  obtain ⟨d, f1, hf⟩ := Rs.bind_ok hf
  obtain ⟨i, rfl⟩ : ∃ i, d = .int i := by cases d <;> first | exact ⟨_, rfl⟩ | cases hf
  simp only at hf
  split at hf
  case isFalse => cases hf
  rename_i hz
  cases hf
  refine ⟨E, B, δ, _, j, f1, fun v1 H1 s1 o1 => ⟨by simp, fun a ha => ?_⟩⟩
  have hv := o1.int j.trk
  subst hv
  have j1 := j.same s1
  refine a10 a i _ _ _ hz upd_same fun H2 dx s2 h1 h2 => ⟨rfl, dx, [(f, .int i)], upd_same, by rw [upd_ne h2, upd_same], ?_, ?_⟩
  · cases q : H1 dx with
    | none => rfl
    | some u =>
      have := s2 dx u (by rw [upd_ne h2]; exact q)
      rw [h1] at this; cases this
  have fin : Same H1 (upd (del (upd (upd H2 dx (exd dx [(f, .int i)])) a (exo a (G.cl k) (some dx))) a) dx (.xd [(f, .int i)])) := fun b u q => by
    have na : b ≠ a := fun z => by rw [z, ha] at q; cases q
    have q2 := s2 b u (by rw [upd_ne na]; exact q)
    have nd : b ≠ dx := fun z => by rw [z, h1] at q2; cases q2
    rw [upd_ne nd, del_ne na, upd_ne na, upd_ne nd]
    exact q2
  have hd : H1 dx = none := by
    cases q : H1 dx with
    | none => rfl
    | some u =>
      have := s2 dx u (by rw [upd_ne h2]; exact q)
      rw [h1] at this; cases this
  show K.W _ _ _ _
  have j2 := (j1.same fin).weak hX
  exact w E σ _ dx (Sm.refl E) j2 ((same_ext (s1.trans fin)).trans (ext_weak hX)) ⟨f, a1, upd_same⟩ ((j1.weak hX).trk.no hd) (by
    cases q : B dx with
    | none => rfl
    | some u =>
      have := (j1.bs dx u q).1
      rw [hd] at this; cases this)
/-- what a call that may raise wishes -/
def rRc (G : Wh) (M : Mn) (S XL : List Nat) (W : WX) (r : Bool) (f : Nat) (es : Exs) : TE := fun σ H Q => ∃ E B δ ds x, J G S E B σ H δ ∧ evs M es δ = .ok ds ∧ M.F f ds = x ∧ match x with
  | .ok d => ∀ v H', Same H H' → RetO r G (OS S E σ) H H' v d → Q v H'
  | .er cc n => ∀ dd H', Same H H' → H dd = none → ErrO G cc n dd H' → W (.ref (G.cl cc)) (some dd) σ H'
  | .st => False
theorem pe_rc {f : Nat} {es : Exs} {v : Expr} {r : Bool} {XL : List Nat} (o : Ok X G M c) (so : SOk X K.W) (hc : chkC c X.env.scope S f es v = some r) : PE X v (rRc G M S XL K.W r f es) ∧ noComp v = true ∧ noTup v = true := by
  cases v <;> try (cases hc; done)
  rename_i fn xs kw pos
  cases fn <;> try (cases hc; done)
  rename_i x p
  match xs, kw, hc with
  | x0 :: xs, [], hc =>
    simp only [chkC] at hc
    split at hc
    · rename_i y r' hf
      split at hc
      · rename_i hb
        cases hc
        simp only [Bool.and_eq_true, decide_eq_true_eq] at hb
        obtain ⟨⟨⟨⟨⟨⟨rfl, h0⟩, hh⟩, h2⟩, h3⟩, h4⟩, h5⟩ := hb
        refine ⟨?_, rfl, rfl⟩
        obtain ⟨a, fd, ps, sp, dvs, dsv, k, CX, a1, a2, a3, a4, a5, a6, a7, _, a8⟩ := o.fn f _ r hf h0 (not_hot hh)
        have st := chkEs_star h4
        rw [List.all_cons, Bool.and_eq_true] at st
        refine (pe_callSD (p := p) (pos := pos) a3 a4 (glb_of h2) a1 a2 a5 a6 (fun σ => a7 X K.W σ rfl rfl so.tk) (sndEs (M := M) es o h4) (plainN_of h3).1 (starEach_cons st.1) (starEach_none st.2)).imp fun σ H Q ⟨E, B, δ, ds, z, j, f1, f2, q⟩ => ?_
        refine ⟨E, B, δ, ds, j, f1, fun vs H1 s1 _ rz => a8 vs H1 Q _ ⟨OS S E σ, ds, z, j.trk.same s1, rz h5, f2, ?_⟩⟩
        cases z with
        | st => exact q
        | ok d => exact fun v H' s q' => q v H' (s1.trans s) (.mono s1 q')
        | er cc n => exact fun dd H' s hd er => q dd H' (s1.trans s) (s1.free hd) er
      · cases hc
    · cases hc
/-- the wish for an exception, out of what is wanted behind the statement -/
theorem er_of {E : Ev} {B : Hp} {δ : Env} {σ : L2.St} {H H' : Hp} {P : Post} {Dd : Ends} {cc : Nat} {n : Int} {dd : Addr} (j : J G S E B σ H δ) (hX : ∀ i ∈ K.XL, i ∈ S) (w : Kont G K P E B (OS S E σ) H Dd (.er cc n δ)) (s : Same H H') (hd : H dd = none) (er : ErrO G cc n dd H') : K.W (.ref (G.cl cc)) (some dd) σ H' := by
  have j1 := (j.same s).weak hX
  refine w E σ H' dd (Sm.refl E) j1 ((same_ext s).trans (ext_weak hX)) er (fun z => ?_) ?_
  · obtain ⟨u, e, _⟩ := (j.weak hX).trk dd z
    rw [hd] at e; cases e
  · cases q : B dd with
    | none => rfl
    | some u =>
      have := (j.bs dd u q).1
      rw [hd] at this; cases this
theorem snd_rcl {k : Rk} {f : Nat} {es : Exs} {x : Stmt} {P : Post} (o : Ok X G M c) (so : SOk X K.W) (hX : ∀ i ∈ K.XL, i ∈ S) (h : chkRk c X.env.scope K.ret S f es k x = some P) : PS X x (rS G S K P (exS M (.rcl k f es))) := by
  cases k with
  | drop =>
    cases x <;> try (cases h; done)
    rename_i v p
    obtain ⟨r, hc, e⟩ := Option.map_eq_some_iff.mp h
    cases e
    obtain ⟨pe, n1, _⟩ := pe_rc (XL := K.XL) o so hc
    refine (ps_expr pe (sw_no n1)).imp fun Dd σ H ⟨E, B, δ, fl, j, hf, w⟩ => ?_
    simp only [exS] at hf
    obtain ⟨ds, f1, hf⟩ := Rs.bind_ok hf
    refine ⟨E, B, δ, ds, _, j, f1, rfl, ?_⟩
    cases q : M.F f ds with
    | st => rw [q] at hf; cases hf
    | ok d =>
      rw [q] at hf
      cases hf
      exact fun v1 H1 s1 _ => w S rfl E σ H1 (Sm.refl E) (j.same s1) (same_ext s1)
    | er cc n =>
      rw [q] at hf
      cases hf
      exact fun dd H1 s1 hd er => er_of j hX w s1 hd er
  | set i =>
    cases x <;> try (cases h; done)
    rename_i ts v p
    rcases ts with _ | ⟨t, tl⟩ <;> try (cases h; done)
    cases t <;> try (cases h; done)
    rename_i x px
    cases tl <;> try (cases h; done)
    simp only [chkRk] at h
    split at h
    · rename_i hs
      obtain ⟨r, hc, e⟩ := Option.map_eq_some_iff.mp h
      cases e
      obtain ⟨pe, n1, _⟩ := pe_rc (XL := K.XL) o so hc
      obtain ⟨h1, h2, h3⟩ := stB_of (p := px) o.N so.fn hs
      refine (ps_set (nd_of o) h1 h2 pe (sw_no n1) h3).imp fun Dd σ H ⟨E, B, δ, fl, j, hf, w⟩ => ?_
      simp only [exS] at hf
      obtain ⟨ds, f1, hf⟩ := Rs.bind_ok hf
      refine ⟨E, B, δ, ds, _, j, f1, rfl, ?_⟩
      cases q : M.F f ds with
      | st => rw [q] at hf; cases hf
      | ok d =>
        rw [q] at hf
        cases hf
        refine fun v1 H1 s1 ro => ?_
        have hi : i ∉ remL S [i] := remL_out (by simp)
        have rr := ro.rep (j.trk)
        have j2 := ((j.same s1).weak (remL_sub (is := [i]))).set hi (rr.less fun a o => OS_sub remL_sub o)
        refine w _ rfl E _ H1 (Sm.refl E) j2 ?_
        rw [OS_set hi]
        exact (same_ext s1).trans (ext_weak remL_sub)
      | er cc n =>
        rw [q] at hf
        cases hf
        exact fun dd H1 s1 hd er => er_of j hX w s1 hd er
    · cases h
  | own i =>
    cases x <;> try (cases h; done)
    rename_i ts v p
    rcases ts with _ | ⟨t, tl⟩ <;> try (cases h; done)
    cases t <;> try (cases h; done)
    rename_i x px
    cases tl <;> try (cases h; done)
    simp only [chkRk] at h
    split at h
    · rename_i hs
      rw [Bool.and_eq_true, decide_eq_true_eq] at hs
      split at h
      · rename_i hc
        cases h
        obtain ⟨pe, n1, _⟩ := pe_rc (XL := K.XL) o so hc
        obtain ⟨h1, h2, h3⟩ := stB_of (p := px) o.N so.fn hs.1
        refine (ps_set (nd_of o) h1 h2 pe (sw_no n1) h3).imp fun Dd σ H ⟨E, B, δ, fl, j, hf, w⟩ => ?_
        simp only [exS] at hf
        obtain ⟨ds, f1, hf⟩ := Rs.bind_ok hf
        refine ⟨E, B, δ, ds, _, j, f1, rfl, ?_⟩
        cases q : M.F f ds with
        | st => rw [q] at hf; cases hf
        | ok d =>
          rw [q] at hf
          simp only [rkD] at hf
          split at hf
          · rename_i hm
            cases hf
            rw [Bool.and_eq_true, decide_eq_true_eq] at hm
            intro v1 H1 s1 ro
            rcases ro with ⟨p, F, rfl, hp, r⟩ | ⟨hn, _⟩
            · have hi : i ∉ remL S [i] := remL_out (by simp)
              have j1 := j.weak (remL_sub (is := [i]))
              obtain ⟨j2, x2⟩ := j1.own s1 hi hs.2 (by rw [j.len]; exact hm.2) hp (r.less fun a o => o.elim (fun q => .inl (OS_sub remL_sub q)) .inr)
              exact w _ rfl _ _ H1 .setF j2 ((ext_weak remL_sub).trans x2)
            · have hm1 : isMut d = true := hm.1
              rw [hm1] at hn; cases hn
          · cases hf
        | er cc n =>
          rw [q] at hf
          cases hf
          exact fun dd H1 s1 hd er => er_of j hX w s1 hd er
      · cases h
    · cases h
  | ret =>
    cases x <;> try (cases h; done)
    rename_i v p
    cases v with
    | none => cases h
    | some v =>
      obtain ⟨L, XL, ret, W⟩ := K
      have h' : ∃ r, chkC c X.env.scope S f es v = some r ∧ P = .dead ∧ ((r = true ∧ ret = .new) ∨ ret = .frz) := by
        have h2 : retC (chkC c X.env.scope S f es v) ret = some P := h
        cases hc : chkC c X.env.scope S f es v with
        | none => rw [hc] at h2; cases h2
        | some r =>
          rw [hc] at h2
          cases r <;> cases ret <;> first | (cases h2; exact ⟨_, rfl, rfl, .inl ⟨rfl, rfl⟩⟩) | (cases h2; exact ⟨_, rfl, rfl, .inr rfl⟩) | (cases h2; done)
      obtain ⟨r, hc, rfl, hr⟩ := h'
      obtain ⟨pe, n1, _⟩ := pe_rc (XL := XL) (K := ⟨L, XL, ret, W⟩) o so hc
      refine (ps_ret pe).imp fun Dd σ H ⟨E, B, δ, fl, j, hf, w⟩ => ?_
      simp only [exS] at hf
      obtain ⟨ds, f1, hf⟩ := Rs.bind_ok hf
      refine ⟨E, B, δ, ds, _, j, f1, rfl, ?_⟩
      cases q : M.F f ds with
      | st => rw [q] at hf; cases hf
      | ok d =>
        rw [q] at hf
        cases hf
        intro v1 H1 s1 ro
        have w : RtK ret G E B d Dd := w
        rcases hr with ⟨rfl, rfl⟩ | rfl
        · refine w v1 H1 (j.sameB.trans s1) ?_
          rcases ro with ⟨p, F, rfl, hp, r⟩ | ⟨hm, r⟩
          · refine .inl ⟨p, F, rfl, fun a f => ?_, r.less fun a o => o.elim (fun z => .inl (.inl z)) .inr⟩
            cases q2 : B a with
            | none => rfl
            | some u =>
              have := j.sameB a u q2
              rw [hp a f] at this; cases this
          · exact .inr ⟨hm, r.less fun a o => .inl o⟩
        · exact w v1 H1 (j.sameB.trans s1) ((ro.rep j.trk).less fun a o => .inl o)
      | er cc n =>
        rw [q] at hf
        cases hf
        exact fun dd H1 s1 hd er => er_of (K := ⟨L, XL, ret, W⟩) j hX w s1 hd er
end
end PV
set_option maxHeartbeats 4000000
namespace PV
open PySem PySem.Spec PyProof.Rows L2

/-! ### an except suite -/
/-- the exception at a is handled -/
def Wh.at (G : Wh) (a : Addr) : Wh := { G with hd := some a }
theorem remO_sub {S : List Nat} {as : Option Nat} : ∀ i ∈ remO S as, i ∈ S := by
  cases as with
  | none => exact fun i h => h
  | some k => exact remL_sub
section
variable {G : Wh} {S : List Nat} {E : Ev} {B : Hp} {σ : L2.St} {H : Hp} {δ : Env}
theorem J.into {a dd : Addr} {cc : Nat} {n : Int} {as : Option Nat} (j : J G S E B σ H δ) (na : H a = none) (er : ErrO G cc n dd H) (nd : ¬ OS S E σ dd) :
    J (G.at a) (remO S as) E B (setA as a σ) (upd H a (xO (G.cl cc) a dd)) (setO δ as (some (.exc cc n))) ∧ Ext (OS S E σ) H (OS (remO S as) E (setA as a σ)) (upd H a (xO (G.cl cc) a dd)) := by
  have s : Same H (upd H a (xO (G.cl cc) a dd)) := same_new na
  have j1 := (j.same s).weak (remO_sub (as := as))
  have x1 : Ext (OS S E σ) H (OS (remO S as) E σ) (upd H a (xO (G.cl cc) a dd)) := (same_ext s).trans (ext_weak remO_sub)
  have nOa : ¬ OS S E σ a := j.trk.no na
  have key : J G (remO S as) E B (setA as a σ) (upd H a (xO (G.cl cc) a dd)) (setO δ as (some (.exc cc n))) ∧ OS (remO S as) E (setA as a σ) = OS (remO S as) E σ := by
    cases as with
    | none => exact ⟨j1, rfl⟩
    | some i =>
      have hi : i ∉ remO S (some i) := remL_out (by simp)
      obtain ⟨f, e1, e2⟩ := er
      exact ⟨j1.set hi (.exc (f := f) e1 upd_same (fun z => nOa (OS_sub remO_sub z)) (s _ _ e2) fun z => nd (OS_sub remO_sub z)), OS_set hi⟩
  refine ⟨⟨key.1.len, key.1.fz, key.1.ow, key.1.dj, key.1.ex, key.1.bs, key.1.pz, fun b e => ?_⟩, by rw [key.2]; exact x1⟩
  have e' : some a = some b := e
  cases e'
  exact ⟨⟨_, _, upd_same⟩, by rw [key.2]; exact fun z => nOa (OS_sub remO_sub z)⟩
theorem J.outof {a : Addr} (h0 : G.hd = none) (j : J (G.at a) S E B σ H δ) : J G S E B σ H δ :=
  ⟨j.len, j.fz, j.ow, j.dj, j.ex, j.bs, j.pz, fun b e => by rw [h0] at e; cases e⟩
theorem J.unas {as : Option Nat} (j : J G S E B σ H δ) (h : ∀ i, as = some i → i ∉ S) : J G S E B (setZ as σ) H (setO δ as none) ∧ OS S E (setZ as σ) = OS S E σ := by
  cases as with
  | none => exact ⟨j, rfl⟩
  | some i => exact ⟨j.set0 (h i rfl) fun d e => (by cases e), rfl⟩
end
section
variable {X : Cx} {G : Wh} {M : Mn} {c : Cn}
theorem Ok.suite (o : Ok X G M c) (a : Addr) (pn : List (Addr × Obj)) : Ok (X.suite a pn) (G.at a) M { c with hot := true } :=
  ⟨o.K, o.w, o.N, o.nd, o.nn, (fun z => nomatch z), .inr ⟨a, rfl, rfl, rfl⟩, o.hu, (fun _ _ _ _ _ z => nomatch z), fun f x r h1 h2 h3 => by
      obtain ⟨ad, fd, ps, sp, k, CX, a1, a2, a3, a4, a5⟩ := o.fh f x r h1 h2 h3
      exact ⟨ad, fd, ps, sp, k, CX, a1, a2, a3, ⟨a4.dp, a4.un⟩, a5⟩, (fun _ _ _ _ z => nomatch z), o.cs, o.ia, o.gl, o.bl, (fun _ _ _ z => nomatch z), o.xt, o.xq, (fun _ _ _ z => nomatch z), o.xf⟩
theorem Ok.tr (o : Ok X G M c) (pn : List (Addr × Obj)) (xe : Value → Shared → Prop) : Ok (X.tr pn xe) G M c :=
  ⟨o.K, o.w, o.N, o.nd, o.nn, o.cm, o.wm, o.hu, o.fn, o.fh, o.ms, o.cs, o.ia, o.gl, o.bl, o.fm, o.xt, o.xq, o.xr, o.xf⟩
theorem SOk.suite {W : WX} (so : SOk X W) (a : Addr) (pn : List (Addr × Obj)) : SOk (X.suite a pn) (fun _ _ _ _ => False) := ⟨so.fn, PassesOwn.never, so.kind, fun _ _ ⟨_, _, _, _, _, _, _, _, _, _, _, _, _, _, _, _, w⟩ => w.elim, so.hs, so.hf⟩
theorem SOk.tr {W W' : WX} (so : SOk X W) (pn : List (Addr × Obj)) (xe : Value → Shared → Prop) (tk : L2N.Takes (X.tr pn xe) W') (p : PassesOwn (model X.prog X.w) X.A X.env xe) : SOk (X.tr pn xe) W' := ⟨so.fn, p, so.kind, tk, so.hs, so.hf⟩
end
/-- in a suite nothing is let out -/
def Kx.su (K : Kx) : Kx := ⟨K.L, [], K.ret, fun _ _ _ _ => False⟩
section
variable {X : Cx} {G : Wh} {M : Mn} {c : Cn} {S : List Nat} {K : Kx}
theorem Kont.suite {p : Post} {E : Ev} {B : Hp} {O O' : Addr → Prop} {H H' : Hp} {Dd : Ends} {a : Addr} {as : Option Nat} (h0 : G.hd = none) (x : Ext O H O' H') (hp : outO K.L as p = true) : ∀ {f fl : Fl}, unAs as f = .ok fl → Kont G K p E B O H Dd fl → Kont (G.at a) K.su p E B O' H' (endZ as Dd) f := by
  have hL : ∀ i, as = some i → i ∉ K.L := fun i e => by
    subst e
    cases p with
    | dead => exact of_decide_eq_true hp
    | live S' =>
      simp only [outO, Bool.and_eq_true, decide_eq_true_eq] at hp
      exact hp.1
  intro f fl hf w
  cases f with
  | nx δ' =>
    cases hf
    intro S' e E' σ' H2 m j y
    obtain ⟨j2, eO⟩ := (j.outof h0).unas (as := as) fun i z => by
      subst z e
      simp only [outO, Bool.and_eq_true, decide_eq_true_eq] at hp
      exact hp.2
    exact w S' e E' _ H2 m j2 (by rw [eO]; exact x.trans y)
  | bk δ' =>
    cases hf
    intro E' σ' H2 m j y
    obtain ⟨j2, eO⟩ := (j.outof h0).unas (as := as) hL
    exact w E' _ H2 m j2 (by show Ext O H (OS K.su.L E' (setZ as σ')) H2; rw [eO]; exact x.trans y)
  | ct δ' =>
    cases hf
    intro E' σ' H2 m j y
    obtain ⟨j2, eO⟩ := (j.outof h0).unas (as := as) hL
    exact w E' _ H2 m j2 (by show Ext O H (OS K.su.L E' (setZ as σ')) H2; rw [eO]; exact x.trans y)
  | rt d =>
    cases hf
    obtain ⟨L, XL, ret, W⟩ := K
    have w : RtK ret G E B d Dd := w
    show RtK ret (G.at a) E B d (endZ as Dd)
    cases ret <;> exact w
  | er _ _ _ => cases hf
theorem nameOk_of (o : Ok X G M c) {as : Option Nat} {n : Option Str} (h : nameB c X.env.scope as n = true) : nameOk X n as := by
  cases as with
  | none => cases n with
    | none => trivial
    | some _ => cases h
  | some i => cases n with
    | none => cases h
    | some x =>
      simp only [nameB, Bool.and_eq_true, decide_eq_true_eq] at h
      exact ⟨o.N ▸ h.1, loc_of h.2⟩
theorem names_of (o : Ok X G M c) {x : Str} {j : Option Nat} (hz : (x, j) ∈ c.xt) (hj : tgtB c x j = true) (hg : glb X.env.scope x = true) : Names X x (tgV G.cl j) := by
  cases j with
  | some i => exact ⟨glb_of hg, (plainN_of hj).1, .inl (o.xt x i hz)⟩
  | none =>
    unfold tgtB at hj
    rw [Bool.and_eq_true, decide_eq_true_eq, decide_eq_true_eq] at hj
    obtain ⟨rfl, hb⟩ := hj
    exact ⟨glb_of hg, by decide, .inr ⟨o.bl _ hb, PyProof.Rows.Boot.«ValueError», by decide⟩⟩
/-- what is shown of the clauses -/
def HdP (X : Cx) (G : Wh) (M : Mn) (c : Cn) (K : Kx) (S : List Nat) (P : Post) (h : Hds) (l : List Hd) : Prop :=
  ∀ {σ : L2.St} {H : Hp} {E : Ev} {B : Hp} {δ : Env} {cc : Nat} {n : Int} {dd : Addr} {Dd : Ends} {fl : Fl}, J G S E B σ H δ → ErrO G cc n dd H → ¬ OS S E σ dd → exH M h cc n δ = .ok fl → Kont G K P E B (OS S E σ) H Dd fl → goT X.K Dd (G.cl cc) dd l σ H
end
end PV
namespace PV
open PySem PySem.Spec PyProof.Rows L2

/-! ### lists in a list, lists in a dict: made longer -/
section
variable {G : Wd} {O O' F : Addr → Prop} {H H' : Hp} {p q b : Addr}
theorem kIdx_at {k : D} : ∀ {l : List (D × D)} {m : Nat}, kIdx k l = some m → ∃ x, l[m]? = some x ∧ D.eqv x.1 k = true
  | x :: l, m, h => by
    unfold kIdx at h
    split at h
    · rename_i e
      cases h
      exact ⟨x, rfl, e⟩
    · obtain ⟨m', h', rfl⟩ := Option.map_eq_some_iff.mp h
      obtain ⟨y, h1, h2⟩ := kIdx_at h'
      exact ⟨y, h1, h2⟩
theorem kIdx_key {k : D} (hk : isKT k = true) : ∀ {xs : List NE} {l : List (D × D)}, xs.length = l.length → (∀ (i : Nat) (x : NE) (d : D × D), xs[i]? = some x → l[i]? = some d → x.1 = nk d.1 ∧ isKT d.1 = true) →
    (kIdx k l = none ∧ atKey xs (nk k) = none) ∨ ∃ m x, kIdx k l = some m ∧ xs[m]? = some x ∧ atKey xs (nk k) = some x.2
  | [], [], _, _ => .inl ⟨rfl, rfl⟩
  | [], _ :: _, l, _ => by cases l
  | _ :: _, [], l, _ => by cases l
  | x :: xs, d :: l, hl, h => by
    obtain ⟨h1, h2⟩ := h 0 x d rfl rfl
    have q := eqv_kt h2 hk
    by_cases e : nk d.1 = nk k
    · rw [decide_eq_true e] at q
      refine .inr ⟨0, x, by unfold kIdx; rw [if_pos q], rfl, by simp [atKey, h1, e]⟩
    · rw [decide_eq_false e] at q
      have a1 : atKey (x :: xs) (nk k) = atKey xs (nk k) := by simp [atKey, List.find?_cons, h1, e]
      have a2 : kIdx k (d :: l) = (kIdx k l).map (· + 1) := by
        show (if D.eqv d.1 k = true then some 0 else (kIdx k l).map (· + 1)) = _
        rw [q, if_neg (by decide)]
      rw [a1, a2]
      rcases kIdx_key hk (by simpa using hl) (fun i y e h1 h2 => h (i + 1) y e (by simpa using h1) (by simpa using h2)) with ⟨z1, z2⟩ | ⟨m, y, z1, z2, z3⟩
      · exact .inl ⟨by rw [z1]; rfl, z2⟩
      · exact .inr ⟨m + 1, y, by rw [z1]; rfl, by simpa using z2, z3⟩
/-- it reads as a dict of lists where no one owns -/
theorem InnD.reps {xs : List NE} {kvs : List (D × List D)} (L : InnD G O F H p xs kvs) : RepsT G (fun _ => False) H xs (kvs.map fun x => (x.1, D.lst x.2)) :=
  RepsT.of_get (by rw [List.length_map]; exact L.2.1) fun i x d h1 h2 => by
    rw [List.getElem?_map] at h2
    obtain ⟨kv, h4, rfl⟩ := Option.map_eq_some_iff.mp h2
    obtain ⟨a1, a2, a3, q, ys, a4, a5, a6, a7, a8⟩ := L.2.2 i x kv h1 h4
    exact ⟨.ref q, a1, a2, a3.less fun _ z => z.elim, a4, .lst (.inl a7) (fun z => z) (a8.ext (less_ext fun _ z => z.elim))⟩
/-- the inner list at place m is made longer -/
theorem InnD.put {xs : List NE} {kvs : List (D × List D)} {m : Nat} {x : NE} {k0 : D} {ds : List D} {ys : List V} {v : V} {d : D} (L : InnD G O F H p xs kvs) (hF : ∀ a, F a → O a) (hx : xs[m]? = some x) (hk : kvs[m]? = some (k0, ds)) (eq : x.2.2 = .ref q) (hy : H q = some (.lst ys)) (ry : Reps G O H ys ds) (rv : Rep G O H v d) :
    InnD G O F (upd H q (.lst (ys ++ [v]))) p xs (kvs.set m (k0, ds ++ [d])) ∧ F q ∧ q ≠ p := by
  obtain ⟨nd, hl, L⟩ := L
  obtain ⟨b1, b2, b3, q', ys', b4, b5, b6, b7, b8⟩ := L m x _ hx hk
  rw [eq] at b4
  cases b4
  have ex : Ext O H O (upd H q (.lst (ys ++ [v]))) := fun b u e n => ⟨by rw [upd_ne fun z => n (by rw [z]; exact hF q b6)]; exact e, n⟩
  refine ⟨⟨nd, by rw [List.length_set]; exact hl, fun i y kv h1 h2 => ?_⟩, b6, b5⟩
  by_cases c : m = i
  · subst c
    rw [hx] at h1
    cases h1
    rw [List.getElem?_set_self (List.getElem?_eq_some_iff.mp hk).1] at h2
    cases h2
    exact ⟨b1, b2, b3.ext ex, q, _, eq, b5, b6, upd_same, (ry.ext ex).append (.cons (rv.ext ex) .nil)⟩
  · rw [List.getElem?_set_ne c] at h2
    obtain ⟨a1, a2, a3, r, zs, a4, a5, a6, a7, a8⟩ := L i y kv h1 h2
    have nr : r ≠ q := fun z => by
      subst z
      have l1 := List.getElem?_eq_some_iff.mp h1
      have l2 := List.getElem?_eq_some_iff.mp hx
      obtain ⟨i1, g1⟩ := l1
      obtain ⟨i2, g2⟩ := l2
      have e1 : (xs.map (·.2.2))[i]'(by simpa using i1) = .ref r := by rw [List.getElem_map, g1]; exact a4
      have e2 : (xs.map (·.2.2))[m]'(by simpa using i2) = .ref r := by rw [List.getElem_map, g2]; exact eq
      exact c ((List.getElem_inj nd).mp (e2.trans e1.symm))
    exact ⟨a1, a2, a3.ext ex, r, zs, a4, a5, a6, by rw [upd_ne nr]; exact a7, a8.ext ex⟩
end
section
variable {X : Cx} {G : Wh} {M : Mn} {c : Cn} {S : List Nat} {K : Kx} {W : WX}
theorem ext_grow {E : Ev} {σ : L2.St} {H H' : Hp} {i : Nat} {F2 : Addr → Prop} (hi : i ∈ S) (keep : ∀ a u, H a = some u → ¬ E.fp i a → H' a = some u) (hF : ∀ a, F2 a → H a = none) : Ext (OS S E σ) H (OS S (setF E i fun a => E.fp i a ∨ F2 a) σ) H' := fun a u e n =>
  ⟨keep a u e fun f => n (.inr ⟨i, hi, f⟩), fun o => by
    rcases o with o | ⟨k, hk, o⟩
    · exact n (.inl o)
    · by_cases z : k = i
      · subst z
        rw [setF_at] at o
        rcases o with o | o
        · exact n (.inr ⟨k, hk, o⟩)
        · have := hF a o
          rw [e] at this
          cases this
      · rw [setF_ne z] at o
        exact n (.inr ⟨k, hk, o⟩)⟩
theorem snd_apl {i : Nat} {e : Ex} {x : Str} {v : Expr} {px p p' pos : Pos} (o : Ok X G M c) (hl : (p.endLine == p'.line) = true) (hi : i ∈ S) (hx : chkE c X.env.scope S (.var i) (.Name x px) = true) (he : chkE c X.env.scope S e v = true) (n : md c S e = .new) (nv : noStar v = true) :
    SndS X G M S K (.apl i e) (.Expr (.Call (.Attribute (.Name x px) "append" p) [v] [] p') pos) (.live S) := by
  refine (ps_expr (pe_bm PySem.F.plainAttrs_list PySem.F.slot_list_append PySem.F.type_list_append mt_append (pe_slot o hx) (pa_cons (sndE (M := M) e o he).pe pa_nil (starEach_cons nv)) rfl (few nv) hl (starEach_cons nv) rfl) rfl).imp fun Dd σ H ⟨E, B, δ, fl, j, hf, q⟩ => ?_
  simp only [exS] at hf
  obtain ⟨d1, f1, hf⟩ := Rs.bind_ok hf
  obtain ⟨d2, f2, hf⟩ := Rs.bind_ok hf
  obtain ⟨dl, es, rfl, rfl⟩ : ∃ dl es, d1 = .nst dl ∧ d2 = .lst es := by
    cases d1 <;> (try (cases hf; done)) <;> cases d2 <;> first | exact ⟨_, _, rfl, rfl⟩ | cases hf
  simp only at hf
  split at hf
  · rename_i hz
    cases hf
    obtain ⟨p0, d0, e1, e2, _, ow⟩ := j.ow i hi
    rw [vget_of f1] at e2
    cases e2
    obtain ⟨fp, tf, ow3⟩ := id ow
    obtain ⟨qs, dss, rfl, hp, nd, hln, L⟩ := ow.nst
    refine ⟨.ref p0, e1, .inl ⟨rfl, _, SqL.of hp⟩, E, B, δ, .lst es, j, f2, fun v2 H2 s2 o2 => ?_⟩
    have hp2 := s2 _ _ hp
    rw [n] at o2
    obtain ⟨q0, F2, rfl, hF2, ow2⟩ : ∃ q0 F2, v2 = .ref q0 ∧ (∀ a, F2 a → H a = none) ∧ Own G (fun a => OS S E σ a ∨ F2 a) F2 H2 q0 (.lst es) := by
      rcases o2 with z | ⟨q2, _⟩
      · exact z
      · cases q2
    obtain ⟨zs, hz2, rz⟩ := ow2.lst
    have fq := ow2.1
    have nq : q0 ≠ p0 := fun z => by
      have := hF2 q0 fq
      rw [z, hp] at this
      cases this
    have nF : ∀ a, F2 a → a ≠ p0 := fun a f z => by
      have := hF2 a f
      rw [z, hp] at this
      cases this
    have keep : ∀ a u, H a = some u → ¬ E.fp i a → upd H2 p0 (.lst (qs.map V.ref ++ [.ref q0])) a = some u := fun a u e nf => by
      rw [upd_ne fun z => nf (by rw [z]; exact fp)]; exact s2 _ _ e
    have x := ext_grow (σ := σ) hi keep hF2
    have x2 : Ext (fun a => OS S E σ a ∨ F2 a) H2 (OS S (setF E i fun a => E.fp i a ∨ F2 a) σ) (upd H2 p0 (.lst (qs.map V.ref ++ [.ref q0]))) := fun a u e no => ⟨by rw [upd_ne fun z => no (.inl (by rw [z]; exact .inr ⟨i, hi, fp⟩))]; exact e, fun o => by
      rcases o with o | ⟨k, hk, o⟩
      · exact no (.inl (.inl o))
      · by_cases z : k = i
        · subst z
          rw [setF_at] at o
          rcases o with o | o
          · exact no (.inl (.inr ⟨k, hk, o⟩))
          · exact no (.inr o)
        · rw [setF_ne z] at o
          exact no (.inl (.inr ⟨k, hk, o⟩))⟩
    have r : Own G (OS S (setF E i fun a => E.fp i a ∨ F2 a) σ) (fun a => E.fp i a ∨ F2 a) (upd H2 p0 (.lst (qs.map V.ref ++ [.ref q0]))) p0 (.nst (dss.map D.lst ++ [.lst es])) := by
      refine ⟨.inl fp, trk_upd (fun a f => ?_) rfl, .inr (.inr (.inr (.inl ⟨qs ++ [q0], dss ++ [es], by rw [List.map_append]; rfl, by rw [List.map_append]; exact upd_same, ?_, by simp [hln], fun k b ds h1 h2 => ?_⟩)))⟩
      · rcases f with f | f
        · obtain ⟨u, e, m⟩ := tf a f
          exact ⟨u, s2 _ _ e, m⟩
        · exact ow2.2.1 a f
      · refine List.nodup_append.mpr ⟨nd, by simp, fun a ha b hb => ?_⟩
        rw [List.mem_singleton.mp hb]
        intro z
        subst z
        obtain ⟨k, hk⟩ := List.getElem?_of_mem ha
        have hk' : k < dss.length := by rw [← hln]; exact (List.getElem?_eq_some_iff.mp hk).1
        obtain ⟨_, _, ys, a3, _⟩ := L k a _ hk (List.getElem?_eq_getElem hk')
        rw [hF2 a fq] at a3
        cases a3
      · by_cases ck : k < qs.length
        · rw [List.getElem?_append_left ck] at h1
          rw [List.getElem?_append_left (by omega)] at h2
          obtain ⟨a1, a2, ys, a3, a4⟩ := L k b ds h1 h2
          exact ⟨a1, .inl a2, ys, by rw [upd_ne a1]; exact s2 _ _ a3, a4.ext x⟩
        · rw [List.getElem?_append_right (by omega)] at h1
          rw [List.getElem?_append_right (by omega)] at h2
          have k0 : k - qs.length = 0 := by
            by_cases z : k - qs.length = 0
            · exact z
            · rw [List.getElem?_eq_none (by simp; omega)] at h1; cases h1
          rw [k0] at h1
          rw [show k - dss.length = 0 by omega] at h2
          cases h1
          cases h2
          exact ⟨nq, .inr fq, zs, by rw [upd_ne nq]; exact hz2, rz.ext x2⟩
    obtain ⟨j4, x4⟩ := j.mutG (H' := upd H2 p0 (.lst (qs.map V.ref ++ [.ref q0]))) (F' := fun a => E.fp i a ∨ F2 a) hi e1 keep (fun a f => f.elim .inl fun f => .inr (hF2 a f)) r
    exact ⟨p0, qs.map V.ref, .ref q0, rfl, rfl, hp2, by rw [List.length_map, hln]; rw [List.length_map] at hz; exact hz, q _ rfl _ σ _ Sm.setF j4 x4⟩
  · cases hf
/-- what d.setdefault(k, []) gives: an own list in an own dict -/
def tRcv (X : Cx) (G : Wh) (M : Mn) (S : List Nat) (i : Nat) (k : Ex) : TE := fun σ H Q => ∃ E B δ kvs kd, J G S E B σ H δ ∧ vget δ i = .ok (.ndc kvs) ∧ ev M k δ = .ok kd ∧ isKT kd = true ∧ kvs.length < sizeLine ∧
  ∀ E' H' p q xs kvs' m x k0 ds ys, Sm E E' → J G S E' B σ H' (δ.set i (some (.ndc (kvs'.map fun x : D × List D => (x.1, D.lst x.2))))) → Ext (OS S E σ) H (OS S E' σ) H' → σ[i]? = some (some (.ref p)) → E'.fp i p → Trk (E'.fp i) H' → H' p = some (DNo G.w p xs) → InnD G (OS S E' σ) (E'.fp i) H' p xs kvs' →
    xs[m]? = some x → x.2.2 = .ref q → kvs'[m]? = some (k0, ds) → H' q = some (.lst ys) → Reps G (OS S E' σ) H' ys ds →
    ((kIdx kd kvs = some m ∧ kvs = kvs'.map fun x : D × List D => (x.1, D.lst x.2)) ∨ (kIdx kd kvs = none ∧ (kvs'.map fun x : D × List D => (x.1, D.lst x.2)) = kvs ++ [(kd, .lst [])] ∧ m = kvs.length ∧ k0 = kd ∧ ds = [])) → Q (.ref q) H'
theorem pe_rcv {i : Nat} {k : Ex} {x : Str} {z : Expr} {px pl p p' : Pos} (o : Ok X G M c) (hl : (p.endLine == p'.line) = true) (hi : i ∈ S) (hx : chkE c X.env.scope S (.var i) (.Name x px) = true) (hk : chkE c X.env.scope S k z = true) (nz : noStar z = true) :
    PE X (.Call (.Attribute (.Name x px) "setdefault" p) [z, .List [] pl] [] p') (tRcv X G M S i k) := by
  have nv : noStar (.List [] pl) = true := rfl
  refine ⟨fun pins s σ H Q I ⟨E, B, δ, kvs, kd, j, f2, f3, hz, hsz, q⟩ => ?_⟩
  obtain ⟨p0, d, e1, e2, _, ow⟩ := j.ow i hi
  rw [vget_of f2] at e2
  cases e2
  obtain ⟨fp, tf, _⟩ := id ow
  obtain ⟨xs, kvs0, ek, hp, L⟩ := ow.ndc
  subst ek
  have hln := L.2.1
  refine wpAny_Call_method rfl (by rw [tr2 nz nv]; rfl) hl PySem.F.plainAttrs_dict PySem.F.slot_dict_setdefault PySem.F.type_dict_setdefault (thn ((pe_slot o hx).run pins s σ H (fun x2 H2 => H2 = H ∧ x2 = .ref p0) I ⟨_, e1, rfl, rfl⟩) fun u s1 ⟨x2, H1, I1, rx, eH, ex⟩ => ?_)
  subst eH ex
  obtain rfl : u = Value.ref p0 := rx
  obtain ⟨p1, ep, _, ty, nd, hd, _⟩ := d_isDict (u := .ref p0) (G := G.toWd) (O := fun _ => False) (t := true) I1 o.K o.w (.inl (.dT hp (fun z => z) L.reps)) rfl
  cases ep
  refine ⟨ty, nd, ?_⟩
  rw [tr2 nz nv]
  refine Calls.callWith_builtin rfl (Calls.evalArgs_plain (Calls.spliced_cons (thn ((sndE (M := M) k o hk).pe.run pins s1 σ H1 (fun y H3 => Same H1 H3 ∧ RepB G (OS S E σ) H3 y kd) I1 ⟨E, B, δ, _, j, f3, fun y H3 s3 o3 => ⟨s3, o3.b j.trk⟩⟩) fun iv s2 ⟨y, H2, I2, ry, h2, q2⟩ =>
    Calls.spliced_cons (thn ((pe_lst pa_nil).run pins s2 σ H2 (fun v3 H3 => ∃ a, H2 a = none ∧ v3 = .ref a ∧ H3 = upd H2 a (.lst [])) I2 ⟨by decide, fun a ha => ⟨a, ha, rfl, rfl⟩⟩) fun fv s3 ⟨v3, H3, I3, rv, a, ha, ev3, eH3⟩ => Calls.spliced_nil ?_))))
  subst ev3 eH3
  obtain rfl : fv = Value.ref a := rv
  obtain ⟨b, rfl, rk⟩ := isKT_ref hz q2
  obtain rfl : iv = Value.ref b := ry
  have s13 : Same H1 (upd H2 a (.lst [])) := h2.trans (same_new ha)
  have ha1 : H1 a = none := by
    cases h : H1 a with
    | none => rfl
    | some u => rw [h2 _ _ h] at ha; cases ha
  have hp3 := s13 _ _ hp
  have L3 : InnD G (fun _ => False) (E.fp i) (upd H2 a (.lst [])) p0 xs kvs0 := ⟨L.1, L.2.1, fun m y kv h1 h2 => by
    obtain ⟨a1, a2, a3, r, zs, a4, a5, a6, a7, a8⟩ := L.2.2 m y kv h1 h2
    exact ⟨a1, a2, (a3.same s13).less fun _ z => z.elim, r, zs, a4, a5, a6, s13 _ _ a7, (a8.same s13).ext (less_ext fun _ z => z.elim)⟩⟩
  have rk3 : Rep G (fun _ => False) (upd H2 a (.lst [])) (.ref b) kd := (rk.same (same_new ha)).less fun _ z => z.elim
  have key := kIdx_key hz (xs := xs) (l := kvs0.map fun x : D × List D => (x.1, D.lst x.2)) (by rw [List.length_map]; exact hln) fun m y d h1 h2 => by
    rw [List.getElem?_map] at h2
    obtain ⟨kv, h4, rfl⟩ := Option.map_eq_some_iff.mp h2
    obtain ⟨a1, a2, _⟩ := L.2.2 m y kv h1 h4
    exact ⟨a1, a2⟩
  have hsz' : xs.length < sizeLine := by rw [hln]; rw [List.length_map] at hsz; exact hsz
  refine n_setdefault (G := G.toWd) (O := fun _ => False) o.hu I3 o.K o.w hp3 L3.reps hz rk3 hsz' (fun w e0 s' I' => ?_) (fun e0 s' I' => ?_)
  · rcases key with ⟨_, z2⟩ | ⟨m, y, z1, z2, z3⟩
    · rw [e0] at z2; cases z2
    · rw [e0] at z3
      cases z3
      have hm : m < kvs0.length := by rw [← hln]; exact (List.getElem?_eq_some_iff.mp z2).1
      have hk0 : kvs0[m]? = some (kvs0[m].1, kvs0[m].2) := List.getElem?_eq_getElem hm
      obtain ⟨a1, a2, a3, r, zs, a4, a5, a6, a7, a8⟩ := L.2.2 m y _ z2 hk0
      have j3 := j.same s13
      have ej : δ.set i (some (.ndc (kvs0.map fun x : D × List D => (x.1, D.lst x.2)))) = δ := by
        have hv := vget_of f2
        apply List.ext_getElem?
        intro n
        by_cases cn : n = i
        · subst cn
          rw [hv, List.getElem?_set_self (List.getElem?_eq_some_iff.mp hv).1]
        · rw [List.getElem?_set_ne (Ne.symm cn)]
      rw [a4]
      refine ⟨.ref r, _, I', rfl, q E _ p0 r xs kvs0 m y _ _ zs (Sm.refl E) (by rw [ej]; exact j3) (same_ext s13) e1 fp (tf.same s13) hp3 ⟨L.1, L.2.1, fun m y kv h1 h2 => ?_⟩ z2 a4 hk0 (s13 _ _ a7) (a8.same s13) (.inl ⟨z1, rfl⟩)⟩
      obtain ⟨b1, b2, b3, r', zs', b4, b5, b6, b7, b8⟩ := L.2.2 m y kv h1 h2
      exact ⟨b1, b2, b3.same s13, r', zs', b4, b5, b6, s13 _ _ b7, b8.same s13⟩
  · rcases key with ⟨z1, _⟩ | ⟨m, y, z1, z2, z3⟩
    · have nap : a ≠ p0 := fun z => by rw [z, hp] at ha1; cases ha1
      rw [storedH_new e0] at I'
      have keep : ∀ c u, H1 c = some u → ¬ E.fp i c → upd (upd H2 a (.lst [])) p0 (DNo G.w p0 (xs ++ [(nk kd, b, .ref a)])) c = some u := fun c u e nf => by
        rw [upd_ne fun z => nf (by rw [z]; exact fp)]; exact s13 _ _ e
      have x := ext_grow (σ := σ) (F2 := fun c => c = a) hi keep fun c e => by rw [e]; exact ha1
      have x3 : ∀ {v : V} {d : D}, Rep G (OS S E σ) H2 v d → Rep G (OS S (setF E i fun c => E.fp i c ∨ c = a) σ) (upd (upd H2 a (.lst [])) p0 (DNo G.w p0 (xs ++ [(nk kd, b, .ref a)]))) v d := fun {v d} r => r.ext fun c u e no => by
        refine ⟨?_, fun oo => ?_⟩
        · rw [upd_ne fun z => no (by rw [z]; exact .inr ⟨i, hi, fp⟩)]
          exact (same_new ha) _ _ e
        · rcases oo with oo | ⟨k, hk, oo⟩
          · exact no (.inl oo)
          · by_cases z : k = i
            · subst z
              rw [setF_at] at oo
              rcases oo with oo | oo
              · exact no (.inr ⟨k, hk, oo⟩)
              · rw [oo, ha] at e; cases e
            · rw [setF_ne z] at oo
              exact no (.inr ⟨k, hk, oo⟩)
      have L4 : InnD G (OS S (setF E i fun c => E.fp i c ∨ c = a) σ) (fun c => E.fp i c ∨ c = a) (upd (upd H2 a (.lst [])) p0 (DNo G.w p0 (xs ++ [(nk kd, b, .ref a)]))) p0 (xs ++ [(nk kd, b, .ref a)]) (kvs0 ++ [(kd, [])]) := by
        refine ⟨?_, by simp [hln], fun m y kv h1 h2 => ?_⟩
        · rw [List.map_append]
          refine List.nodup_append.mpr ⟨L.1, by simp, fun u hu v hv => ?_⟩
          rw [List.mem_singleton.mp hv]
          intro z
          obtain ⟨y, hy, rfl⟩ := List.mem_map.mp hu
          obtain ⟨m, hm⟩ := List.getElem?_of_mem hy
          have hm' : m < kvs0.length := by rw [← hln]; exact (List.getElem?_eq_some_iff.mp hm).1
          obtain ⟨_, _, _, r, zs, b4, b5, b6, b7, _⟩ := L.2.2 m y _ hm (List.getElem?_eq_getElem hm')
          rw [b4] at z
          cases z
          rw [ha1] at b7
          cases b7
        · by_cases ck : m < xs.length
          · rw [List.getElem?_append_left ck] at h1
            rw [List.getElem?_append_left (by omega)] at h2
            obtain ⟨b1, b2, b3, r, zs, b4, b5, b6, b7, b8⟩ := L.2.2 m y kv h1 h2
            have nr : r ≠ a := fun z => by rw [z, ha1] at b7; cases b7
            exact ⟨b1, b2, b3.ext x, r, zs, b4, b5, .inl b6, by rw [upd_ne b5]; exact s13 _ _ b7, b8.ext x⟩
          · rw [List.getElem?_append_right (by omega)] at h1
            rw [List.getElem?_append_right (by omega)] at h2
            have k0 : m - xs.length = 0 := by
              by_cases z : m - xs.length = 0
              · exact z
              · rw [List.getElem?_eq_none (by simp; omega)] at h1; cases h1
            rw [k0] at h1
            rw [show m - kvs0.length = 0 by omega] at h2
            cases h1
            cases h2
            exact ⟨rfl, hz, x3 rk, a, [], rfl, nap, .inr rfl, by rw [upd_ne nap]; exact upd_same, .nil⟩
      have tf4 : Trk (fun c => E.fp i c ∨ c = a) (upd (upd H2 a (.lst [])) p0 (DNo G.w p0 (xs ++ [(nk kd, b, .ref a)]))) := trk_upd (fun c f => by
        rcases f with f | f
        · exact (tf.same s13) c f
        · exact ⟨_, by rw [f]; exact upd_same, rfl⟩) rfl
      obtain ⟨j4, x4⟩ := j.mutG (H' := upd (upd H2 a (.lst [])) p0 (DNo G.w p0 (xs ++ [(nk kd, b, .ref a)]))) (F' := fun c => E.fp i c ∨ c = a) (d := .ndc ((kvs0 ++ [(kd, [])]).map fun x : D × List D => (x.1, D.lst x.2))) hi e1 keep (fun c f => f.elim .inl fun f => .inr (by rw [f]; exact ha1))
        ⟨.inl fp, tf4, .inr (.inr (.inr (.inr (.inl ⟨_, _, rfl, upd_same, L4⟩))))⟩
      have fe : (setF E i fun c => E.fp i c ∨ c = a).fp i = fun c => E.fp i c ∨ c = a := setF_fp
      refine ⟨.ref a, _, I', rfl, q _ _ p0 a (xs ++ [(nk kd, b, .ref a)]) (kvs0 ++ [(kd, [])]) kvs0.length (nk kd, b, .ref a) kd [] [] Sm.setF j4 x4 e1 (by rw [fe]; exact .inl fp) (by rw [fe]; exact tf4) upd_same (by rw [fe]; exact L4) (by rw [← hln]; simp) rfl (by simp) (by rw [upd_ne nap]; exact upd_same) .nil
        (.inr ⟨z1, by rw [List.map_append]; rfl, by rw [List.length_map], rfl, rfl⟩)⟩
    · rw [e0] at z3; cases z3
theorem snd_sda {i jv : Nat} {k : Ex} {x y : Str} {z : Expr} {px pl py p1 p2 p p' pos : Pos} (o : Ok X G M c) (hl1 : (p1.endLine == p2.line) = true) (hl : (p.endLine == p'.line) = true) (hi : i ∈ S) (hx : chkE c X.env.scope S (.var i) (.Name x px) = true) (hk : chkE c X.env.scope S k z = true) (nz : noStar z = true)
    (hj : jv ∉ S) (hy : chkE c X.env.scope S (.var jv) (.Name y py) = true) :
    SndS X G M S K (.sda i k (.var jv)) (.Expr (.Call (.Attribute (.Call (.Attribute (.Name x px) "setdefault" p1) [z, .List [] pl] [] p2) "append" p) [.Name y py] [] p') pos) (.live S) := by
  have nv : noStar (.Name y py) = true := rfl
  refine (ps_expr (pe_bm PySem.F.plainAttrs_list PySem.F.slot_list_append PySem.F.type_list_append mt_append (pe_rcv (p := p1) (p' := p2) (pl := pl) (M := M) o hl1 hi hx hk nz) (pa_cons (pe_slot o hy) pa_nil (starEach_cons nv)) rfl (few nv) hl (starEach_cons nv) rfl) rfl).imp fun Dd σ H ⟨E, B, δ, fl, j, hf, q⟩ => ?_
  simp only [exS] at hf
  obtain ⟨d1, f1, hf⟩ := Rs.bind_ok hf
  obtain ⟨kd, f2, hf⟩ := Rs.bind_ok hf
  obtain ⟨d3, f3, hf⟩ := Rs.bind_ok hf
  obtain ⟨kvs, rfl⟩ : ∃ kvs, d1 = .ndc kvs := by
    cases d1 <;> first | exact ⟨_, rfl⟩ | cases hf
  simp only at hf
  split at hf
  · rename_i hz
    rw [Bool.and_eq_true, decide_eq_true_eq] at hz
    refine ⟨E, B, δ, kvs, kd, j, f1, f2, hz.1, hz.2, fun E' H' p0 q0 xs kvs' m x0 k0 ds ys sm j1 x1 e1 fp tf hp L hxm hxr hkm hq rq hc => ?_⟩
    have nij : jv ≠ i := fun e => hj (by rw [e]; exact hi)
    have f3' : vget δ jv = .ok d3 := f3
    have gv : (δ.set i (some (.ndc (kvs'.map fun x : D × List D => (x.1, D.lst x.2)))))[jv]? = some (some d3) := by
      rw [List.getElem?_set_ne (Ne.symm nij)]; exact vget_of f3'
    obtain ⟨v3, ev3, rv3⟩ := j1.fz jv d3 hj gv
    have hF : ∀ a, E'.fp i a → OS S E' σ a := fun a f => .inr ⟨i, hi, f⟩
    obtain ⟨L2, fq, nq⟩ := L.put hF hxm hkm hxr hq rq rv3
    refine ⟨.inl ⟨rfl, _, SqL.of hq⟩, v3, ev3, ?_⟩
    have own' : Own G (OS S E' σ) (E'.fp i) (upd H' q0 (.lst (ys ++ [v3]))) p0 (.ndc ((kvs'.set m (k0, ds ++ [d3])).map fun x : D × List D => (x.1, D.lst x.2))) :=
      ⟨fp, trk_upd tf rfl, .inr (.inr (.inr (.inr (.inl ⟨xs, _, rfl, by rw [upd_ne (Ne.symm nq)]; exact hp, L2⟩))))⟩
    obtain ⟨j4, x4⟩ := j1.mutG (H' := upd H' q0 (.lst (ys ++ [v3]))) (F' := E'.fp i) (d := .ndc ((kvs'.set m (k0, ds ++ [d3])).map fun x : D × List D => (x.1, D.lst x.2))) hi e1 (fun a u e nf => by rw [upd_ne fun z => nf (by rw [z]; exact fq)]; exact e) (fun a f => .inl f) (by rw [setF_self]; exact own')
    rw [setF_self] at j4 x4
    rw [List.set_set] at j4
    have fin : fl = .nx (δ.set i (some (.ndc ((kvs'.set m (k0, ds ++ [d3])).map fun x : D × List D => (x.1, D.lst x.2))))) ∧ ys.length < sizeLine := by
      have ml : m < kvs'.length := (List.getElem?_eq_some_iff.mp hkm).1
      rcases hc with ⟨h1, h2⟩ | ⟨h1, h2, h3, h4, h5⟩
      · have g : kvs[m]? = some (k0, .lst ds) := by rw [h2, List.getElem?_map, hkm]; rfl
        rw [h1] at hf
        simp only [g] at hf
        split at hf
        · rename_i hl
          cases hf
          refine ⟨?_, by rw [rq.length]; exact hl⟩
          rw [List.map_set, ← h2]
        · cases hf
      · rw [h1] at hf
        cases hf
        subst h4 h5 h3
        refine ⟨?_, by rw [rq.length]; decide⟩
        rw [List.map_set, h2, List.set_append_right _ _ (Nat.le_refl _), Nat.sub_self]; rfl
    rw [fin.1] at q
    exact ⟨q0, ys, v3, rfl, rfl, hq, fin.2, q _ rfl E' σ _ sm j4 (x1.trans x4)⟩
  · cases hf
end
end PV
set_option maxHeartbeats 4000000
namespace PV
open PySem PySem.Spec PyProof.Rows L2

section
variable {X : Cx} {G : Wh} {M : Mn} {c : Cn} {S : List Nat} {K : Kx} {W : WX}
theorem mem_joinL {a b : List Nat} : ∀ i ∈ a.filter (fun i => decide (i ∈ b)), i ∈ a := fun i h => (List.mem_filter.mp h).1
theorem mem_joinR {a b : List Nat} : ∀ i ∈ a.filter (fun i => decide (i ∈ b)), i ∈ b := fun i h => of_decide_eq_true (List.mem_filter.mp h).2
/-- a branch's end is the whole's end -/
theorem Kont.left {p q : Post} {E : Ev} {B : Hp} {O : Addr → Prop} {H : Hp} {Dd : Ends} : ∀ {fl : Fl}, Kont G K (p.join q) E B O H Dd fl → Kont G K p E B O H Dd fl
  | .nx _, k => fun S' e E' σ' H' m j y => by
    subst e
    cases q with
    | dead => exact k S' rfl E' σ' H' m j y
    | live b => exact k _ rfl E' σ' H' m (j.weak mem_joinL) (y.trans (ext_weak mem_joinL))
  | .bk _, k => k
  | .ct _, k => k
  | .rt _, k => k
  | .er _ _ _, k => k
theorem Kont.right {p q : Post} {E : Ev} {B : Hp} {O : Addr → Prop} {H : Hp} {Dd : Ends} : ∀ {fl : Fl}, Kont G K (p.join q) E B O H Dd fl → Kont G K q E B O H Dd fl
  | .nx _, k => fun S' e E' σ' H' m j y => by
    subst e
    cases p with
    | dead => exact k S' rfl E' σ' H' m j y
    | live b => exact k _ rfl E' σ' H' m (j.weak mem_joinR) (y.trans (ext_weak mem_joinR))
  | .bk _, k => k
  | .ct _, k => k
  | .rt _, k => k
  | .er _ _ _, k => k
theorem snd_iff {k : Ex} {a b : Sts} {t : Expr} {xs ys : List Stmt} {p q : Post} {pos : Pos} (o : Ok X G M c) (hk : chkE c X.env.scope S k t = true) (n : noIf t = true) (ha : PSs X xs (rS G S K p (exB M a))) (hb : PSs X ys (rS G S K q (exB M b))) :
    SndS X G M S K (.iff k a b) (.If t xs ys pos) (p.join q) := by
  refine (ps_if ((sndE (M := M) k o hk).pt n) ha hb).imp fun Dd σ H ⟨E, B, δ, fl, j, hf, w⟩ => ?_
  simp only [exS] at hf
  obtain ⟨d, f1, hf⟩ := Rs.bind_ok hf
  cases d <;> try (cases hf; done)
  rename_i u
  refine ⟨E, B, δ, u, j, f1, fun H1 s1 => ?_⟩
  cases u with
  | true => exact iteT ⟨E, B, δ, fl, j.same s1, hf, (w.left).ext (Sm.refl E) (same_ext s1)⟩
  | false => exact iteF ⟨E, B, δ, fl, j.same s1, hf, (w.right).ext (Sm.refl E) (same_ext s1)⟩
/-- the body of a loop from keep on -/
def bodyP (keep : List Nat) (p : Post) : Prop := p = .dead ∨ ∃ S', p = .live S' ∧ ∀ i ∈ keep, i ∈ S'
/-- a loop's source, which may change own ones -/
def rIX (G : Wh) (S : List Nat) (f : Env → Rs (List D × Env)) : TI := fun σ H R => ∃ E B δ ds δ1, J G S E B σ H δ ∧ f δ = .ok (ds, δ1) ∧
  ∀ T E' H', Sm E E' → J G S E' B σ H' δ1 → Ext (OS S E σ) H (OS S E' σ) H' → Wk G (OS S E' σ) H' T ds → R T H'
/-- in a loop -/
def Kx.lp (K : Kx) (keep : List Nat) : Kx := { K with L := keep }
theorem snd_loop {tg : Tg} {f : Env → Rs (List D × Env)} {b : Sts} {keep : List Nat} {t it : Expr} {xs : List Stmt} {p : Post} {pos : Pos} (o : Ok X G M c) (so : SOk X W) (hk : ∀ i ∈ keep, i ∈ S) (ht : tgB c X.env.scope tg t = true) (hn : ∀ i ∈ tg.slots, i ∉ keep) (hr : PIB X t it (rIX G keep f)) (ns : noSet it = true)
    (hb : PSs X xs (rS G keep (K.lp keep) p (exB M b))) (hp : bodyP keep p) : PS X (.For t it xs [] pos) (rS G S K (.live keep) fun δ => f δ >>= fun x => forL tg (exB M b) x.1 x.2) := by
  refine (for_b so.pass hr (pg_all (S := keep) (tg := tg) o.K (nd_of o) o.warm (tgB_of o.N so.fn ht) hn) hb (noFold ns)).imp fun Dd σ H ⟨E, B, δ, fl, j, hf, w⟩ => ?_
  obtain ⟨⟨ds, δ1⟩, f1, hf⟩ := Rs.bind_ok hf
  have j0 := j.weak hk
  have x0 : Ext (OS S E σ) H (OS keep E σ) H := ext_weak hk
  refine ⟨E, B, δ, ds, δ1, j0, f1, fun T E1 H1 m1 j1 x1 wk => ?_⟩
  refine ⟨fun i m σc Hc => m = ds.length - i ∧ i ≤ ds.length ∧ ∃ E2 δc, Sm E1 E2 ∧ J G keep E2 B σc Hc δc ∧ Ext (OS keep E1 σ) H1 (OS keep E2 σc) Hc ∧ forL tg (exB M b) (ds.drop i) δc = .ok fl,
    ⟨ds.length, by simp, Nat.zero_le _, E1, δ1, Sm.refl _, j1, Ext.refl _ _, by simpa using hf⟩, ?_⟩
  rintro i m σc Hc ⟨rfl, hi, E2, δc, m2, jc, xc, fc⟩
  refine ⟨o.warm jc, ?_⟩
  by_cases hlt : i < ds.length
  · obtain ⟨hgo, hyld⟩ := wk.go i ds[i] Hc _ xc jc.trk (List.getElem?_eq_getElem hlt)
    rw [List.drop_eq_getElem_cons hlt] at fc
    simp only [forL] at fc
    obtain ⟨δ', g1, fc⟩ := Rs.bind_ok fc
    obtain ⟨fl', g2, fc⟩ := Rs.bind_ok fc
    refine .inr ⟨hgo, fun σn Hn => i + 1 ≤ ds.length ∧ ∃ E3 δc, Sm E1 E3 ∧ J G keep E3 B σn Hn δc ∧ Ext (OS keep E1 σ) H1 (OS keep E3 σn) Hn ∧ forL tg (exB M b) (ds.drop (i + 1)) δc = .ok fl,
      fun σ' H' z => ⟨ds.length - (i + 1), by omega, rfl, z⟩, fun x H' y => ?_⟩
    obtain ⟨s2, rx⟩ := hyld x H' y
    refine ⟨E2, B, δc, ds[i], δ', jc.same s2, rx, g1, fun σ2 j2 _ eO => ?_⟩
    have x2 : Ext (OS keep E1 σ) H1 (OS keep E2 σ2) H' := by
      rw [eO]
      exact xc.trans (same_ext s2)
    refine ⟨E2, B, δ', fl', j2, g2, ?_⟩
    cases fl' with
    | nx δn =>
      intro S' e E3 σn Hn m3 jn xn
      rcases hp with hp | ⟨S'', hp, hs⟩
      · rw [hp] at e; cases e
      · rw [hp] at e
        cases e
        exact ⟨hlt, E3, δn, m2.trans m3, jn.weak hs, x2.trans (xn.trans (ext_weak hs)), fc⟩
    | ct δn => exact fun E3 σn Hn m3 jn xn => ⟨hlt, E3, δn, m2.trans m3, jn, x2.trans xn, fc⟩
    | bk δn =>
      cases fc
      exact fun E3 σn Hn m3 jn xn => w keep rfl E3 σn Hn (m1.trans (m2.trans m3)) jn ((x0.trans x1).trans (x2.trans xn))
    | rt d =>
      cases fc
      exact (w.ext (m1.trans m2) (Ext.refl _ _) : Kont G K _ E2 B _ H Dd (.rt d))
    | er c n δn =>
      cases fc
      exact fun E3 σn Hn dd m3 jn xn => w E3 σn Hn dd (m1.trans (m2.trans m3)) jn ((x0.trans x1).trans (x2.trans xn))
  · have hi' : i = ds.length := by omega
    subst hi'
    rw [List.drop_length] at fc
    cases fc
    exact .inl ⟨wk.stop _ Hc _ xc jc.trk (Nat.le_refl _), w keep rfl E2 σc Hc (m1.trans m2) jc ((x0.trans x1).trans xc)⟩
theorem snd_for {tg : Tg} {s : Sr} {b : Sts} {keep : List Nat} {t it : Expr} {xs : List Stmt} {p : Post} {pos : Pos} (o : Ok X G M c) (so : SOk X W) (hk : ∀ i ∈ keep, i ∈ S) (ht : tgB c X.env.scope tg t = true) (hn : ∀ i ∈ tg.slots, i ∉ keep) (hr : chkR c X.env.scope keep s t it = true) (ns : noSet it = true)
    (hb : PSs X xs (rS G keep (K.lp keep) p (exB M b))) (hp : bodyP keep p) : SndS X G M S K (.for tg s b keep) (.For t it xs [] pos) (.live keep) := by
  have hi : PIB X t it (rIX G keep fun δ => evr M s δ >>= fun ds => .ok (ds, δ)) := (sndR (M := M) s o hr).imp fun σ H R ⟨E, B, δ, ds, δ1, j, hf, k⟩ => by
    obtain ⟨ds', f1, hf⟩ := Rs.bind_ok hf
    cases hf
    exact ⟨E, B, δ, ds, j, f1, fun T H' s1 wk => k T E H' (Sm.refl E) (j.same s1) (same_ext s1) wk⟩
  refine (snd_loop o so hk ht hn hi ns hb hp).imp fun Dd σ H ⟨E, B, δ, fl, j, hf, w⟩ => ⟨E, B, δ, fl, j, ?_, w⟩
  simp only [exS] at hf
  obtain ⟨ds, f1, hf⟩ := Rs.bind_ok hf
  dsimp only
  rw [f1]
  exact hf
/-- for t in f(x, ..): f changes x -/
theorem pe_callM {i f : Nat} {es : Exs} {g : Str} {x0 : Expr} {xs : List Expr} {p pos : Pos} {keep : List Nat} (o : Ok X G M c) (hi : i ∈ keep) (hm : (f, g) ∈ c.fm) (hh : c.hot = false) (hg : glb X.env.scope g = true) (hpl : plainN g = true) (hnm : isNm x0 = true) (hx : chkE c X.env.scope keep (.var i) x0 = true)
    (h : PA X xs (rA G keep (nbs c keep es) (evs M es))) (n : xs.all noStar = true) (hn : nbs c keep es = true) :
    PE X (.Call (.Name g p) (x0 :: xs) [] pos) (fun σ H Q => ∃ E B δ ds d0 d d1, J G keep E B σ H δ ∧ evs M es δ = .ok ds ∧ vget δ i = .ok d0 ∧ M.F f (d0 :: ds) = .ok (.tup [d, d1]) ∧
      ∀ v E' H', Sm E E' → J G keep E' B σ H' (δ.set i (some d1)) → Ext (OS keep E σ) H (OS keep E' σ) H' → Rep G (OS keep E' σ) H' v d → Q v H') := by
  obtain ⟨a, fd, ps, sp, dvs, dsv, k, CX, h1, h2, h3, h4, h5, h6, h7, h8⟩ := o.fm f g hm hh
  obtain ⟨nx, np, rfl⟩ : ∃ y py, x0 = .Name y py := by cases x0 <;> first | exact ⟨_, _, rfl⟩ | cases hnm
  have hs := pe_slot (M := M) o hx
  refine (pe_call (x := g) (p := p) (pos := pos) h3 h4 (glb_of hg) h1 h2 h5 h6 (h7 X rfl rfl) (pa_cons hs h (starEach_cons rfl)) (plainN_of hpl).1 (starEach_cons rfl) (starEach_none n)).imp fun σ H Q ⟨E, B, δ, ds, d0, d, d1, j, f1, f0, hf, q⟩ => ?_
  obtain ⟨p0, d0', e1, e2, ne, ow⟩ := j.ow i hi
  rw [vget_of f0] at e2
  cases e2
  refine ⟨.ref p0, e1, E, B, δ, ds, j, f1, fun vs H1 s1 rb rz => h8 (.ref p0 :: vs) H1 Q ?_⟩
  have j1 := j.same s1
  have r1 := rz hn
  -- what is no one's own but slot i's
  have eO : ∀ a, OS keep E σ a ↔ (OS keep E σ a ∧ ¬ E.fp i a) ∨ E.fp i a := fun a => by
    by_cases z : E.fp i a
    · exact ⟨fun _ => .inr z, fun _ => .inr ⟨i, hi, z⟩⟩
    · exact ⟨fun o => .inl ⟨o, z⟩, fun o => o.elim (fun o => o.1) fun w => absurd w z⟩
  refine ⟨fun a => OS keep E σ a ∧ ¬ E.fp i a, E.fp i, p0, d0, vs, ds, d, d1, rfl, fun a o => j1.trk a o.1, fun a f o => o.2 f, (ow.same s1).less fun a o => (eO a).mpr o, r1.ext (less_ext fun a o => (eO a).mpr o), hf, fun v F' H' s2 hF' ow' rm => ?_⟩
  have hF2 : ∀ a, F' a → E.fp i a ∨ H1 a = none := fun a f => (hide_none (hF' a f).1).symm
  have key : ∀ a, OS keep (setF E i F') σ a → (OS keep E σ a ∧ ¬ E.fp i a) ∨ F' a := fun a o => by
    rcases o with o | ⟨k, hk, o⟩
    · exact .inl ⟨.inl o, fun z => ne a z o⟩
    · by_cases z : k = i
      · subst z
        rw [setF_at] at o
        exact .inr o
      · rw [setF_ne z] at o
        exact .inl ⟨.inr ⟨k, hk, o⟩, j.dj k i hk hi z a o⟩
  obtain ⟨j2, x2⟩ := j1.mutG (H' := H') (F' := F') (d := d1) hi e1 (fun a u e nf => s2 a u (by rw [hide_out nf]; exact e)) hF2 (ow'.less key)
  refine q v _ H' .setF j2 ((same_ext s1).trans x2) ?_
  rcases rm with ⟨q0, Fq, rfl, hq, oq⟩ | ⟨_, r⟩
  · refine (oq.less fun a o => .inl (key a o)).rep fun a f o => ?_
    obtain ⟨h1, h2, h3⟩ := hq a f
    rcases key a o with w | w
    · exact h3 w
    · exact h2 w
  · exact r.less key
theorem snd_mfor {tg : Tg} {i f : Nat} {es : Exs} {b : Sts} {keep : List Nat} {t x0 : Expr} {g : Str} {xs : List Expr} {body : List Stmt} {q : Post} {p pos0 pos : Pos} (o : Ok X G M c) (so : SOk X W) (hk : ∀ i ∈ keep, i ∈ S) (hi : i ∈ keep) (ht : tgB c X.env.scope tg t = true) (hn : ∀ i ∈ tg.slots, i ∉ keep)
    (hm : (f, g) ∈ c.fm) (hh : c.hot = false) (hg : glb X.env.scope g = true) (hpl : plainN g = true) (hnm : isNm x0 = true) (hx : chkE c X.env.scope keep (.var i) x0 = true) (he : chkEs c X.env.scope keep es xs = true) (hnb : nbs c keep es = true)
    (hb : PSs X body (rS G keep (K.lp keep) q (exB M b))) (hp : bodyP keep q) : SndS X G M S K (.mfor tg i f es b keep) (.For t (.Call (.Name g p) (x0 :: xs) [] pos0) body [] pos) (.live keep) := by
  have hi : PIB X t (.Call (.Name g p) (x0 :: xs) [] pos0) (rIX G keep fun δ => evs M es δ >>= fun ds => vget δ i >>= fun d0 => match M.F f (d0 :: ds) with
      | .ok (.tup [.lst ys, d1]) => .ok (ys, δ.set i (some d1))
      | _ => .st) := by
    refine (pihL (pe_callM o hi hm hh hg hpl hnm hx (sndEs es o he) (chkEs_star he) hnb)).imp fun σ H R ⟨E, B, δ, ys, δ1, j, hf, k⟩ => ?_
    obtain ⟨ds, f1, hf⟩ := Rs.bind_ok hf
    obtain ⟨d0, f0, hf⟩ := Rs.bind_ok hf
    split at hf
    · rename_i ys' d1 hF
      cases hf
      refine ⟨E, B, δ, ds, d0, .lst ys, d1, j, f1, f0, hF, fun v E' H' m j' x r => ?_⟩
      obtain ⟨p, zs, rfl, hp, rr⟩ := RepB.lst (G := G) (O := OS keep E' σ) (.inl r)
      exact ⟨p, rfl, ⟨zs, o.K ▸ hp⟩, k _ E' _ m j' x (o.K ▸ wk_list r)⟩
    · cases hf
  refine (snd_loop o so hk ht hn hi rfl hb hp).imp fun Dd σ H ⟨E, B, δ, fl, j, hf, w⟩ => ⟨E, B, δ, fl, j, ?_, w⟩
  simp only [exS] at hf
  obtain ⟨ds, f1, hf⟩ := Rs.bind_ok hf
  obtain ⟨d0, f0, hf⟩ := Rs.bind_ok hf
  split at hf
  · rename_i ys d1 hF
    dsimp only
    simp only [f1, f0, hF, Rs.ok_bind]
    exact hf
  · cases hf
theorem snd_whl {k : Ex} {b : Sts} {keep : List Nat} {t : Expr} {xs : List Stmt} {p : Post} {pos : Pos} (o : Ok X G M c) (so : SOk X W) (hk : ∀ i ∈ keep, i ∈ S) (hc : chkE c X.env.scope keep k t = true) (n : noIf t = true)
    (hb : PSs X xs (rS G keep (K.lp keep) p (exB M b))) (hp : bodyP keep p) : SndS X G M S K (.whl k b keep) (.While t xs [] pos) (.live keep) := by
  refine (ps_while so.pass ((sndE (M := M) k o hc).pt n) hb).imp fun Dd σ H ⟨E, B, δ, fl, j, hf, w⟩ => ?_
  simp only [exS] at hf
  have j0 := j.weak hk
  have x0 : Ext (OS S E σ) H (OS keep E σ) H := ext_weak hk
  refine ⟨fun m σc Hc => ∃ E2 δc, Sm E E2 ∧ J G keep E2 B σc Hc δc ∧ Ext (OS keep E σ) H (OS keep E2 σc) Hc ∧ whlL (ev M k) (exB M b) m δc = .ok fl, ⟨M.wf, E, δ, Sm.refl _, j0, Ext.refl _ _, hf⟩, ?_⟩
  rintro m σc Hc ⟨E2, δc, m2, jc, xc, fc⟩
  cases m with
  | zero => cases fc
  | succ m =>
    simp only [whlL] at fc
    obtain ⟨d, g1, fc⟩ := Rs.bind_ok fc
    cases d <;> try (cases fc; done)
    rename_i u
    refine ⟨E2, B, δc, u, jc, g1, fun H1 s1 => ?_⟩
    have j1 := jc.same s1
    have x1 := xc.trans (same_ext (O := OS keep E2 σc) s1)
    cases u with
    | false =>
      cases fc
      exact iteF (w keep rfl E2 σc H1 m2 j1 (x0.trans x1))
    | true =>
      obtain ⟨fl', g2, fc⟩ := Rs.bind_ok (x := exB M b δc) fc
      refine iteT ⟨fun σn Hn => ∃ E3 δc, Sm E E3 ∧ J G keep E3 B σn Hn δc ∧ Ext (OS keep E σ) H (OS keep E3 σn) Hn ∧ whlL (ev M k) (exB M b) m δc = .ok fl, fun σ' H' z => ⟨m, Nat.lt_succ_self m, z⟩, E2, B, δc, fl', j1, g2, ?_⟩
      cases fl' with
      | nx δn =>
        intro S' e E3 σn Hn m3 jn xn
        rcases hp with hp | ⟨S'', hp, hs⟩
        · rw [hp] at e; cases e
        · rw [hp] at e
          cases e
          exact ⟨E3, δn, m2.trans m3, jn.weak hs, x1.trans (xn.trans (ext_weak hs)), fc⟩
      | ct δn => exact fun E3 σn Hn m3 jn xn => ⟨E3, δn, m2.trans m3, jn, x1.trans xn, fc⟩
      | bk δn =>
        cases fc
        exact fun E3 σn Hn m3 jn xn => w keep rfl E3 σn Hn (m2.trans m3) jn (x0.trans (x1.trans xn))
      | rt d =>
        cases fc
        exact (w.ext m2 (Ext.refl _ _) : Kont G K _ E2 B _ H Dd (.rt d))
      | er c n δn =>
        cases fc
        exact fun E3 σn Hn dd m3 jn xn => w E3 σn Hn dd (m2.trans m3) jn (x0.trans (x1.trans xn))
theorem Ok.nox (o : Ok X G M c) : Ok X.nox G M c := ⟨o.K, o.w, o.N, o.nd, o.nn, o.cm, o.wm, o.hu, o.fn, o.fh, o.ms, o.cs, o.ia, o.gl, o.bl, o.fm, o.xt, o.xq, o.xr, o.xf⟩
theorem takes_noN {X : Cx} : L2N.Takes X (fun _ _ _ _ => False) := fun _ _ ⟨_, _, _, _, _, _, _, _, _, _, _, _, _, _, _, _, w⟩ => w.elim
theorem SOk.nox (so : SOk X W) : SOk X.nox (fun _ _ _ _ => False) := ⟨so.fn, PassesOwn.never, so.kind, takes_noN, so.hs, so.hf⟩
theorem reps_tail {O : Addr → Prop} {H : Hp} {vs : List V} {d : D} {ds : List D} (h : Reps G O H vs (d :: ds)) : ∃ v vs', vs = v :: vs' ∧ Rep G O H v d ∧ Reps G O H vs' ds := by
  cases h with
  | cons a b => exact ⟨_, _, rfl, a, b⟩
theorem snd_pop0 {is : List Nat} {es : List Expr} {kk i nz : Nat} {x : Str} {px p p' pt pos pz : Pos} (o : Ok X G M c) (so : SOk X W) (hs : stsB c X.env.scope is es = true) (hl : (p.endLine == p'.line) = true) (hi : i ∈ S) (hn : i ∉ is) (hx : chkE c X.env.scope S (.var i) (.Name x px) = true) :
    SndS X G M S K (.pop0 is i) (.Assign [.Tuple es kk pt] (.Call (.Attribute (.Name x px) "pop" p) [.Constant (.int 0) nz pz] [] p') pos) (.live (remL S is)) := by
  have ht : TgOk X (.many is) (.Tuple es kk pt) := ⟨_, _, _, rfl, stsB_of o.N so.fn hs⟩
  have hz : PE X (.Constant (.int 0) nz pz) (tC (.int 0)) := pe_int
  refine (ps_asg (pe_bm PySem.F.plainAttrs_list PySem.F.slot_list_pop PySem.F.type_list_pop mt_popAt (pe_slot o hx) (pa_cons hz pa_nil rfl) rfl rfl hl rfl rfl) (pg_all (S := remL S is) (tg := .many is) o.K (nd_of o) o.warm ht fun i hi => remL_out hi) sws_tup (ss_tup rfl) rfl).imp fun Dd σ H ⟨E, B, δ, fl, j, hf, k⟩ => ?_
  simp only [exS] at hf
  obtain ⟨d1, f1, hf⟩ := Rs.bind_ok hf
  obtain ⟨d, ds, rfl⟩ : ∃ d ds, d1 = .lst (d :: ds) := by
    cases d1 <;> try (cases hf; done)
    rename_i l
    cases l
    · cases hf
    · exact ⟨_, _, rfl⟩
  obtain ⟨δ', f2, hf⟩ := Rs.bind_ok (x := tset1 (.many is) d (δ.set i (some (.lst ds)))) hf
  cases hf
  obtain ⟨p, xs, e1, fp, tf, hp, rr⟩ := own_lst j hi (vget_of f1)
  obtain ⟨y, ys, rfl, ry, rys⟩ := reps_tail rr
  have oP : OS S E σ p := .inr ⟨i, hi, fp⟩
  have x3 := own_ext (H := H) (xs := ys) oP
  obtain ⟨j4, x4⟩ := j.mut (o := .lst ys) (d := .lst ds) hi e1 (.mkL upd_same fp (trk_upd tf rfl) (rys.ext x3))
  have j5 := j4.weak (remL_sub (is := is))
  refine ⟨.ref p, e1, .inl ⟨rfl, _, SqL.of hp⟩, p, y :: ys, 0, 0, y, rfl, rfl, hp, by decide, by decide, by simp [seqIndex?], rfl, ?_⟩
  refine ⟨E, B, _, d, δ', j5, (ry.ext x3).less fun a o => OS_sub remL_sub o, f2, fun σ' j2 _ eO => k _ rfl E σ' _ (Sm.refl E) j2 ?_⟩
  rw [eO]
  exact x4.trans (ext_weak remL_sub)
theorem snd_brk {pos : Pos} (h : ∀ i ∈ K.L, i ∈ S) : SndS X G M S K .brk (.Break pos) .dead :=
  ps_break.imp fun Dd σ H ⟨E, B, δ, fl, j, hf, w⟩ => by
    cases hf
    exact w E σ H (Sm.refl E) (j.weak h) (ext_weak h)
theorem snd_cnt {pos : Pos} (h : ∀ i ∈ K.L, i ∈ S) : SndS X G M S K .cnt (.Continue pos) .dead :=
  ps_continue.imp fun Dd σ H ⟨E, B, δ, fl, j, hf, w⟩ => by
    cases hf
    exact w E σ H (Sm.refl E) (j.weak h) (ext_weak h)
theorem snd_pas {pos : Pos} : SndS X G M S K .pas (.Pass pos) (.live S) :=
  ps_pass.imp fun Dd σ H ⟨E, B, δ, fl, j, hf, w⟩ => by
    cases hf
    exact w S rfl E σ H (Sm.refl E) j (Ext.refl _ _)
theorem snd_drop {e : Ex} {v : Expr} {pos : Pos} (o : Ok X G M c) (he : chkE c X.env.scope S e v = true) (n : noComp v = true) : SndS X G M S K (.drop e) (.Expr v pos) (.live S) :=
  (ps_expr (sndE (M := M) e o he).pe (sw_no n)).imp fun Dd σ H ⟨E, B, δ, fl, j, hf, w⟩ => by
    simp only [exS] at hf
    obtain ⟨d, f1, hf⟩ := Rs.bind_ok hf
    cases hf
    exact ⟨E, B, δ, d, j, f1, fun v1 H1 s1 o1 => w S rfl E σ H1 (Sm.refl E) (j.same s1) (same_ext s1)⟩
end
section
variable {M : Mn}
def SP (M : Mn) (s : St) : Prop := ∀ (G : Wh) (c : Cn) (X : Cx) (S : List Nat) (K : Kx) (x : Stmt) (P : Post), Ok X G M c → SOk X K.W → chkS c X.env.scope K.ret K.XL S K.L s x = some P → PS X x (rS G S K P (exS M s))
def BP (M : Mn) (s : Sts) : Prop := ∀ (G : Wh) (c : Cn) (X : Cx) (S : List Nat) (K : Kx) (xs : List Stmt) (P : Post), Ok X G M c → SOk X K.W → chkB c X.env.scope K.ret K.XL S K.L s xs = some P → PSs X xs (rS G S K P (exB M s))
def HP (M : Mn) (h : Hds) : Prop := ∀ (G : Wh) (c : Cn) (X : Cx) (S : List Nat) (K : Kx) (hs : List ExceptHandler) (P : Post), Ok X G M c → SOk X K.W → G.hd = none → chkH c X.env.scope K.ret S K.L h hs = some P → ∃ l, HdsT X hs l ∧ HdP X G M c K S P h l
theorem SP.go {s : St} (q : SP M s) {G : Wh} {c : Cn} {X : Cx} {S : List Nat} {K : Kx} {x : Stmt} {P : Post} (o : Ok X G M c) (so : SOk X K.W) (h : chkS c X.env.scope K.ret K.XL S K.L s x = some P) : PS X x (rS G S K P (exS M s)) := q G c X S K x P o so h
theorem BP.go {s : Sts} (q : BP M s) {G : Wh} {c : Cn} {X : Cx} {S : List Nat} {K : Kx} {xs : List Stmt} {P : Post} (o : Ok X G M c) (so : SOk X K.W) (h : chkB c X.env.scope K.ret K.XL S K.L s xs = some P) : PSs X xs (rS G S K P (exB M s)) := q G c X S K xs P o so h
theorem HP.go {s : Hds} (q : HP M s) {G : Wh} {c : Cn} {X : Cx} {S : List Nat} {K : Kx} {hs : List ExceptHandler} {P : Post} (o : Ok X G M c) (so : SOk X K.W) (h0 : G.hd = none) (h : chkH c X.env.scope K.ret S K.L s hs = some P) : ∃ l, HdsT X hs l ∧ HdP X G M c K S P s l := q G c X S K hs P o so h0 h
theorem sp_setT {i : Nat} {e : Ex} : SP M (.set true i e) := fun G c X S K x P o so h => by
    cases x <;> try (cases h; done)
    rename_i ts v p
    rcases ts with _ | ⟨t, tl⟩ <;> try (cases h; done)
    cases t <;> try (cases h; done)
    rename_i x px
    cases tl <;> try (cases h; done)
    simp only [chkS_set, chkS_set2] at h
    split at h
    · rename_i hc
      simp only [Bool.and_eq_true, decide_eq_true_eq] at hc
      cases h
      exact snd_setT o so hc.1.1.1 hc.1.1.2 hc.1.2 hc.2
    · cases h
theorem sp_setF {i : Nat} {e : Ex} : SP M (.set false i e) := fun G c X S K x P o so h => by
    cases x <;> try (cases h; done)
    rename_i ts v p
    rcases ts with _ | ⟨t, tl⟩ <;> try (cases h; done)
    cases t <;> try (cases h; done)
    rename_i x px
    cases tl <;> try (cases h; done)
    simp only [chkS_set, chkS_set2] at h
    split at h
    · rename_i hc
      simp only [Bool.and_eq_true] at hc
      cases h
      exact snd_setF o so hc.1.1 hc.1.2 hc.2
    · cases h
theorem sp_unp {is : List Nat} {e : Ex} : SP M (.unp is e) := fun G c X S K x P o so h => by
    cases x <;> try (cases h; done)
    rename_i ts v p
    rcases ts with _ | ⟨t, tl⟩ <;> try (cases h; done)
    cases t <;> try (cases h; done)
    rename_i es k px
    cases tl <;> try (cases h; done)
    simp only [chkS_unp] at h
    split at h
    · rename_i hc
      simp only [Bool.and_eq_true] at hc
      obtain ⟨⟨⟨⟨h1, h2⟩, h3⟩, h4⟩, h5⟩ := hc
      cases h
      exact snd_unp o so h1 h2 h3 h4 h5
    · cases h
theorem sp_par {i k : Nat} {a b : Ex} : SP M (.par i k a b) := fun G c X S K x P o so h => by
    cases x <;> try (cases h; done)
    rename_i ts v p
    rcases ts with _ | ⟨t, tl⟩ <;> try (cases h; done)
    cases t <;> try (cases h; done)
    rename_i es kt pt
    rcases es with _ | ⟨a1, r1⟩ <;> try (cases h; done)
    cases a1 <;> try (cases h; done)
    rename_i x px
    rcases r1 with _ | ⟨a2, r2⟩ <;> try (cases h; done)
    cases a2 <;> try (cases h; done)
    rename_i y py
    cases r2 <;> try (cases h; done)
    cases tl <;> try (cases h; done)
    cases v <;> try (cases h; done)
    rename_i vs k2 p2
    rcases vs with _ | ⟨v, _ | ⟨w, _ | ⟨_, _⟩⟩⟩ <;> try (cases h; done)
    simp only [chkS_par] at h
    split at h
    · rename_i hc
      simp only [Bool.and_eq_true, decide_eq_true_eq] at hc
      obtain ⟨⟨⟨⟨⟨⟨⟨⟨⟨⟨⟨⟨h1, h2⟩, h3⟩, h4⟩, h5⟩, h6⟩, h7⟩, h8⟩, h9⟩, h10⟩, h11⟩, h12⟩, hh⟩ := hc
      cases h
      exact snd_par o so h1 h2 h3 h4 h5 h6 h7 h8 h9 h10 h11 h12 (not_hot hh)
    · cases h
theorem sp_seti {i : Nat} {k e : Ex} : SP M (.seti i k e) := fun G c X S K x P o so h => by
    cases x <;> try (cases h; done)
    rename_i ts v p
    rcases ts with _ | ⟨t, tl⟩ <;> try (cases h; done)
    cases t <;> try (cases h; done)
    rename_i ob z p2
    cases ob <;> try (cases h; done)
    rename_i x px
    cases tl <;> try (cases h; done)
    simp only [chkS_seti] at h
    split at h
    · rename_i hc
      simp only [Bool.and_eq_true, decide_eq_true_eq] at hc
      obtain ⟨⟨⟨⟨⟨h1, h2⟩, h3⟩, h4⟩, h5⟩, h6⟩ := hc
      cases h
      exact snd_seti o h1 h2 h3 h4 h5 h6
    · cases h
theorem sp_puti {i : Nat} {k e : Ex} : SP M (.puti i k e) := fun G c X S K x P o so h => by
    cases x <;> try (cases h; done)
    rename_i ts v p
    rcases ts with _ | ⟨t, tl⟩ <;> try (cases h; done)
    cases t <;> try (cases h; done)
    rename_i ob z p2
    cases ob <;> try (cases h; done)
    rename_i x px
    cases tl <;> try (cases h; done)
    simp only [chkS_puti] at h
    split at h
    · rename_i hc
      simp only [Bool.and_eq_true, decide_eq_true_eq] at hc
      obtain ⟨⟨⟨⟨⟨h1, h2⟩, h3⟩, h4⟩, h5⟩, h6⟩ := hc
      cases h
      exact snd_puti o h1 h2 h3 h4 h5
    · cases h
theorem sp_sdf {i : Nat} {k e : Ex} : SP M (.sdf i k e) := fun G c X S K x P o so h => by
    cases x <;> try (cases h; done)
    rename_i v p
    cases v <;> try (cases h; done)
    rename_i fn args kw p'
    cases fn <;> try (cases h; done)
    rename_i ob a p1
    cases ob <;> try (cases h; done)
    rename_i x px
    rcases args with _ | ⟨z, _ | ⟨v, _ | ⟨_, _⟩⟩⟩ <;> try (cases h; done)
    cases kw <;> try (cases h; done)
    simp only [chkS_sdf] at h
    split at h
    · rename_i hc
      simp only [Bool.and_eq_true, decide_eq_true_eq] at hc
      obtain ⟨⟨⟨⟨⟨⟨⟨⟨rfl, h1⟩, h2⟩, h3⟩, h4⟩, h5⟩, h6⟩, h7⟩, h8⟩ := hc
      cases h
      exact snd_sdf o h1 h2 h3 h4 h5 h6 h7 h8
    · cases h
theorem sp_app {i : Nat} {e : Ex} : SP M (.app i e) := fun G c X S K x P o so h => by
    cases x <;> try (cases h; done)
    rename_i v p
    cases v <;> try (cases h; done)
    rename_i fn args kw p'
    cases fn <;> try (cases h; done)
    rename_i ob a p1
    cases ob <;> try (cases h; done)
    rename_i x px
    rcases args with _ | ⟨v, _ | ⟨_, _⟩⟩ <;> try (cases h; done)
    cases kw <;> try (cases h; done)
    simp only [chkS_app] at h
    split at h
    · rename_i hc
      simp only [Bool.and_eq_true, decide_eq_true_eq] at hc
      obtain ⟨⟨⟨⟨⟨⟨⟨rfl, h1⟩, h2⟩, h3⟩, h4⟩, h5⟩, h6⟩, h7⟩ := hc
      cases h
      exact snd_app o (by rw [h2]; simp) h2 h3 h4 h5 h6 h7
    · cases h
theorem sp_apn {i : Nat} {k e : Ex} : SP M (.apn i k e) := fun G c X S K x P o so h => by
    cases x <;> try (cases h; done)
    rename_i v p
    cases v <;> try (cases h; done)
    rename_i fn args kw p'
    cases fn <;> try (cases h; done)
    rename_i ob a p1
    cases ob <;> try (cases h; done)
    rename_i nb z pz
    cases nb <;> try (cases h; done)
    rename_i x px
    rcases args with _ | ⟨v, _ | ⟨_, _⟩⟩ <;> try (cases h; done)
    cases kw <;> try (cases h; done)
    simp only [chkS_apn] at h
    split at h
    · rename_i hc
      simp only [Bool.and_eq_true, decide_eq_true_eq] at hc
      obtain ⟨⟨⟨⟨⟨⟨⟨⟨rfl, h1⟩, h2⟩, h3⟩, h4⟩, h5⟩, h6⟩, h7⟩, h8⟩ := hc
      cases h
      exact snd_apn o h1 h2 h3 h4 h5 h6 h7 h8
    · cases h
theorem sp_ext {i : Nat} {e : Ex} : SP M (.ext i e) := fun G c X S K x P o so h => by
    cases x <;> try (cases h; done)
    rename_i v p
    cases v <;> try (cases h; done)
    rename_i fn args kw p'
    cases fn <;> try (cases h; done)
    rename_i ob a p1
    cases ob <;> try (cases h; done)
    rename_i x px
    rcases args with _ | ⟨v, _ | ⟨_, _⟩⟩ <;> try (cases h; done)
    cases kw <;> try (cases h; done)
    simp only [chkS_ext] at h
    split at h
    · rename_i hc
      simp only [Bool.and_eq_true, decide_eq_true_eq] at hc
      obtain ⟨⟨⟨⟨⟨⟨rfl, h2⟩, h3⟩, h4⟩, h5⟩, h6⟩, h7⟩ := hc
      cases h
      exact snd_ext o h2 h3 h4 h5 h6 h7
    · cases h
theorem sp_aug {i : Nat} {op : Bop} {e : Ex} : SP M (.aug i op e) := fun G c X S K x P o so h => by
    cases x <;> try (cases h; done)
    rename_i t op' v p
    cases t <;> try (cases h; done)
    rename_i x px
    simp only [chkS_aug] at h
    split at h
    · rename_i hc
      simp only [Bool.and_eq_true, decide_eq_true_eq, Bool.or_eq_true] at hc
      cases h
      obtain ⟨⟨⟨⟨h1, h2⟩, rfl⟩, h4⟩, h5⟩ := hc
      exact snd_aug o so h1 h2 (by rcases h4 with (h | h) | h <;> simp [h]) h5
    · cases h
theorem sp_ret {e : Ex} : SP M (.ret e) := fun G c X S K x P o so h => by
    cases x <;> try (cases h; done)
    rename_i v p
    match v, h with
    | some v, h =>
      simp only [chkS_ret] at h
      split at h
      · rename_i hc
        simp only [Bool.and_eq_true] at hc
        cases h
        exact snd_ret o hc.1 hc.2
      · cases h
theorem sp_retN  : SP M (.retN) := fun G c X S K x P o so h => by
    cases x <;> try (cases h; done)
    rename_i v p
    match v, h with
    | none, h =>
      simp only [chkS_retN] at h
      split at h
      · rename_i hc
        cases h
        exact snd_retN (of_decide_eq_true hc)
      · cases h
theorem sp_iff {k : Ex} {a b : Sts} (ia : BP M a) (ib : BP M b) : SP M (.iff k a b) := fun G c X S K x P o so h => by
    cases x <;> try (cases h; done)
    rename_i t xs ys p
    simp only [chkS_iff] at h
    split at h
    · rename_i hc
      simp only [Bool.and_eq_true] at hc
      split at h
      · rename_i p q h1 h2
        cases h
        exact snd_iff o hc.1 hc.2 (BP.go ia o so h1) (BP.go ib o so h2)
      · cases h
    · cases h
theorem sp_for {tg : Tg} {s : Sr} {b : Sts} {keep : List Nat} (ib : BP M b) : SP M (.for tg s b keep) := fun G c X S K x P o so h => by
    cases x <;> try (cases h; done)
    rename_i t it xs els p
    match els, h with
    | [], h =>
      simp only [chkS_for] at h
      split at h
      · rename_i hc
        simp only [Bool.and_eq_true] at hc
        obtain ⟨⟨⟨⟨h1, h2⟩, h3⟩, h4⟩, h5⟩ := hc
        split at h
        · rename_i hb
          cases h
          exact snd_for o so (subL_of h1) h2 (all_slots h3) h4 h5 (BP.go ib (K := K.lp keep) o so hb) (.inl rfl)
        · rename_i S' hb
          split at h
          · rename_i hs
            cases h
            exact snd_for o so (subL_of h1) h2 (all_slots h3) h4 h5 (BP.go ib (K := K.lp keep) o so hb) (.inr ⟨S', rfl, subL_of hs⟩)
          · cases h
        · cases h
      · cases h
theorem sp_whl {k : Ex} {b : Sts} {keep : List Nat} (ib : BP M b) : SP M (.whl k b keep) := fun G c X S K x P o so h => by
    cases x <;> try (cases h; done)
    rename_i t xs els p
    match els, h with
    | [], h =>
      simp only [chkS_whl] at h
      split at h
      · rename_i hc
        simp only [Bool.and_eq_true] at hc
        obtain ⟨⟨h1, h2⟩, h3⟩ := hc
        split at h
        · rename_i hb
          cases h
          exact snd_whl o so (subL_of h1) h2 h3 (BP.go ib (K := K.lp keep) o so hb) (.inl rfl)
        · rename_i S' hb
          split at h
          · rename_i hs
            cases h
            exact snd_whl o so (subL_of h1) h2 h3 (BP.go ib (K := K.lp keep) o so hb) (.inr ⟨S', rfl, subL_of hs⟩)
          · cases h
        · cases h
      · cases h
theorem sp_brk  : SP M (.brk) := fun G c X S K x P o so h => by
    cases x <;> try (cases h; done)
    simp only [chkS_brk] at h
    split at h
    · rename_i hc
      cases h
      exact snd_brk (subL_of hc)
    · cases h
theorem sp_cnt  : SP M (.cnt) := fun G c X S K x P o so h => by
    cases x <;> try (cases h; done)
    simp only [chkS_cnt] at h
    split at h
    · rename_i hc
      cases h
      exact snd_cnt (subL_of hc)
    · cases h
theorem sp_pas  : SP M (.pas) := fun G c X S K x P o so h => by
    cases x <;> try (cases h; done)
    cases h
    exact snd_pas
theorem sp_drop {e : Ex} : SP M (.drop e) := fun G c X S K x P o so h => by
    cases x <;> try (cases h; done)
    simp only [chkS_drop] at h
    split at h
    · rename_i hc
      simp only [Bool.and_eq_true] at hc
      cases h
      exact snd_drop o hc.1 hc.2
    · cases h
theorem sp_popu {is : List Nat} {i : Nat} : SP M (.popu is i) := fun G c X S K x P o so h => by
    cases x <;> try (cases h; done)
    rename_i ts v p
    rcases ts with _ | ⟨t, tl⟩ <;> try (cases h; done)
    cases t <;> try (cases h; done)
    rename_i es kk pt
    cases tl <;> try (cases h; done)
    cases v <;> try (cases h; done)
    rename_i fn args kw q'
    cases fn <;> try (cases h; done)
    rename_i ob a q
    cases ob <;> try (cases h; done)
    rename_i y py
    cases args <;> try (cases h; done)
    cases kw <;> try (cases h; done)
    simp only [chkS_popu] at h
    split at h
    · rename_i hc
      simp only [Bool.and_eq_true, decide_eq_true_eq] at hc
      obtain ⟨⟨⟨⟨⟨h1, rfl⟩, h2⟩, h3⟩, h4⟩, h5⟩ := hc
      cases h
      exact snd_popu o so h1 h2 h3 h4 h5
    · cases h
theorem sp_tri {b r : Sts} (ib : BP M b) (ir : BP M r) : SP M (.tri b r) := fun G c X S K x P o so h => by
    cases x <;> try (cases h; done)
    rename_i xs hs ys fs p
    cases hs with
    | nil => cases fs <;> cases h
    | cons h0 hs =>
      cases fs with
      | cons _ _ => cases h
      | nil =>
        simp only [chkS_tri] at h
        split at h
        · rename_i S' hb
          refine (ps_try_thru (BP.go ib (X := X.nox) (K := { K with W := fun _ _ _ _ => False }) o.nox (so.nox) hb) (BP.go ir o so h)).imp fun Dd σ H ⟨E, B, δ, fl, j, hf, w⟩ => ?_
          simp only [exS] at hf
          obtain ⟨fl', g1, hf⟩ := Rs.bind_ok hf
          refine ⟨E, B, δ, fl', j, g1, ?_⟩
          cases fl' with
          | nx δ' =>
            intro S'' e E' σ' H' m j' x'
            cases e
            exact ⟨E', B, δ', fl, j', hf, w.ext m x'⟩
          | bk δ' => cases hf; exact w
          | ct δ' => cases hf; exact w
          | rt d => cases hf; exact w
          | er c n δ' => cases hf
        · rename_i hb
          cases h
          refine (ps_try_thru (BP.go ib (X := X.nox) (K := { K with W := fun _ _ _ _ => False }) o.nox (so.nox) hb) pss_never).imp fun Dd σ H ⟨E, B, δ, fl, j, hf, w⟩ => ?_
          simp only [exS] at hf
          obtain ⟨fl', g1, hf⟩ := Rs.bind_ok hf
          refine ⟨E, B, δ, fl', j, g1, ?_⟩
          cases fl' with
          | nx δ' => exact fun S'' e => by cases e
          | bk δ' => cases hf; exact w
          | ct δ' => cases hf; exact w
          | rt d => cases hf; exact w
          | er c n δ' => cases hf
        · cases h
theorem sp_pop0 {is : List Nat} {i : Nat} : SP M (.pop0 is i) := fun G c X S K x P o so h => by
    cases x <;> try (cases h; done)
    rename_i ts v p
    rcases ts with _ | ⟨t, tl⟩ <;> try (cases h; done)
    cases t <;> try (cases h; done)
    rename_i es kk pt
    cases tl <;> try (cases h; done)
    cases v <;> try (cases h; done)
    rename_i fn args kw q'
    cases fn <;> try (cases h; done)
    rename_i ob a q
    cases ob <;> try (cases h; done)
    rename_i y py
    rcases args with _ | ⟨ag, al⟩ <;> try (cases h; done)
    cases ag <;> try (cases h; done)
    rename_i cn _ _
    cases cn <;> try (cases h; done)
    rename_i z
    cases al <;> try (cases h; done)
    cases kw <;> try (cases h; done)
    simp only [chkS_pop0] at h
    split at h
    · rename_i hc
      simp only [Bool.and_eq_true, decide_eq_true_eq] at hc
      obtain ⟨⟨⟨⟨⟨⟨h1, rfl⟩, rfl⟩, h2⟩, h3⟩, h4⟩, h5⟩ := hc
      cases h
      exact snd_pop0 o so h1 h2 h3 h4 h5
    · cases h
theorem sp_retM {jj : Nat} : SP M (.retM jj) := fun G c X S K x P o so h => by
    cases x <;> try (cases h; done)
    rename_i v p
    cases v with
    | none => cases h
    | some v =>
      cases v <;> try (cases h; done)
      simp only [chkS_retM] at h
      split at h
      · rename_i hc
        simp only [Bool.and_eq_true, decide_eq_true_eq] at hc
        obtain ⟨⟨⟨⟨h1, h2⟩, h3⟩, h4⟩, h5⟩ := hc
        cases h
        exact snd_retM o h1 h2 h3 h4 h5
      · cases h
theorem sp_mfor {tg : Tg} {i f : Nat} {es : Exs} {b : Sts} {keep : List Nat} (ib : BP M b) : SP M (.mfor tg i f es b keep) := fun G c X S K x P o so h => by
    cases x <;> try (cases h; done)
    rename_i t it xs els p
    cases it <;> try (cases h; done)
    rename_i fn args kw p'
    cases fn <;> try (cases h; done)
    rename_i g pg
    rcases args with _ | ⟨x0, ys⟩ <;> try (cases h; done)
    cases kw <;> try (cases h; done)
    cases els <;> try (cases h; done)
    simp only [chkS_mfor] at h
    split at h
    · rename_i hc
      simp only [Bool.and_eq_true, decide_eq_true_eq] at hc
      obtain ⟨⟨⟨⟨⟨⟨⟨⟨⟨⟨⟨⟨h1, h2⟩, h3⟩, h4⟩, h5⟩, h6⟩, h7⟩, h8⟩, h9⟩, h10⟩, h11⟩, h12⟩, hh⟩ := hc
      split at h
      · rename_i hb
        cases h
        exact snd_mfor o so (subL_of h1) h2 h3 (all_slots h4) h5 (not_hot hh) h6 h7 h8 h9 h10 h11 (BP.go ib (K := K.lp keep) o so hb) (.inl rfl)
      · rename_i S' hb
        split at h
        · rename_i hs
          cases h
          exact snd_mfor o so (subL_of h1) h2 h3 (all_slots h4) h5 (not_hot hh) h6 h7 h8 h9 h10 h11 (BP.go ib (K := K.lp keep) o so hb) (.inr ⟨S', rfl, subL_of hs⟩)
        · cases h
      · cases h
    · cases h
theorem sp_rse {k : Nat} {e : Ex} : SP M (.rse k e) := fun G c X S K x P o so h => by
    cases x <;> try (cases h; done)
    rename_i v cz p
    cases v with
    | none => cases h
    | some v =>
      cases v <;> try (cases h; done)
      rename_i fn xs kw p2
      cases fn <;> try (cases h; done)
      rcases xs with _ | ⟨y, _ | ⟨_, _⟩⟩ <;> try (cases h; done)
      cases kw <;> try (cases h; done)
      cases cz <;> try (cases h; done)
      simp only [chkS_rse] at h
      split at h
      · rename_i hc
        simp only [Bool.and_eq_true, decide_eq_true_eq] at hc
        obtain ⟨⟨⟨⟨⟨⟨h1, h2⟩, h3⟩, h4⟩, h5⟩, h6⟩, h7⟩ := hc
        cases h
        exact snd_rse o so (not_hot h1) h2 h3 h4 h5 h6 (subL_of h7)
      · cases h
theorem sp_rcl {k : Rk} {f : Nat} {es : Exs} : SP M (.rcl k f es) := fun G c X S K x P o so h => by
    simp only [chkS_rcl] at h
    split at h
    · rename_i hc
      exact snd_rcl o so (subL_of hc) h
    · cases h
theorem sp_trx {b : Sts} {hd : Hds} {r : Sts} {keep : List Nat} (ib : BP M b) (ih : HP M hd) (ir : BP M r) : SP M (.trx b hd r keep) := fun G c X S K x P o so h => by
    cases x <;> try (cases h; done)
    rename_i xs hs ys fs p
    cases hs with
    | nil => cases fs <;> cases h
    | cons h0 hs =>
      cases fs with
      | cons _ _ => cases h
      | nil =>
        simp only [chkS_trx] at h
        split at h
        · rename_i hc
          simp only [Bool.and_eq_true] at hc
          obtain ⟨hk, hh⟩ := hc
          have hk := subL_of hk
          have hh := not_hot hh
          have hd0 : G.hd = none := by
            rcases o.wm with ⟨z, _⟩ | ⟨_, _, _, z⟩
            · exact z
            · rw [hh] at z; cases z
          have hb := fun {p0 : Post} (hp : chkB c X.env.scope K.ret keep S K.L b xs = some p0) (W : WX) (pn : List (Addr × Obj)) (xe : Value → Shared → Prop) (tk : L2N.Takes (X.tr pn xe) W) (ps : PassesOwn (model X.prog X.w) X.A X.env xe) =>
            BP.go ib (X := X.tr pn xe) (K := ⟨K.L, keep, K.ret, W⟩) (o.tr pn xe) (so.tr pn xe tk ps) hp
          split at h
          · rename_i q hp hq
            cases h
            obtain ⟨l, hl, gl⟩ := HP.go ih o so hd0 hq
            refine (try_all (nd_of o) so.hs so.hf pss_never (hb hp) hl).imp fun Dd σ H ⟨E, B, δ, fl, j, hf, w⟩ => ?_
            simp only [exS] at hf
            obtain ⟨fl', g1, hf⟩ := Rs.bind_ok hf
            refine ⟨E, B, δ, fl', j, g1, ?_⟩
            cases fl' with
            | nx δ' => exact fun S'' e => by cases e
            | bk δ' => cases hf; exact w
            | ct δ' => cases hf; exact w
            | rt d => cases hf; exact w
            | er cc n δ' =>
              exact fun E' σ' H' dd m j' x' er nO bn => ⟨_, _, rfl, rfl, gl j' er nO hf (w.ext m x')⟩
          · rename_i S' q hp hq
            split at h
            · rename_i p2 ho
              cases h
              obtain ⟨l, hl, gl⟩ := HP.go ih o so hd0 hq
              refine (try_all (nd_of o) so.hs so.hf (BP.go ir o so ho) (hb hp) hl).imp fun Dd σ H ⟨E, B, δ, fl, j, hf, w⟩ => ?_
              simp only [exS] at hf
              obtain ⟨fl', g1, hf⟩ := Rs.bind_ok hf
              refine ⟨E, B, δ, fl', j, g1, ?_⟩
              cases fl' with
              | nx δ' =>
                intro S'' e E' σ' H' m j' x'
                cases e
                exact ⟨E', B, δ', fl, j', hf, w.left.ext m x'⟩
              | bk δ' => cases hf; exact w
              | ct δ' => cases hf; exact w
              | rt d => cases hf; exact w
              | er cc n δ' =>
                exact fun E' σ' H' dd m j' x' er nO bn => ⟨_, _, rfl, rfl, gl j' er nO hf (w.right.ext m x')⟩
            · cases h
          · cases h
        · cases h
theorem sp_mcl {k : Rk} {i f : Nat} {es : Exs} : SP M (.mcl k i f es) := fun G c X S K x P o so h => by cases x <;> cases h

theorem sp_nev  : SP M (.nev) := fun G c X S K x P o so h => ps_never.imp fun Dd σ H ⟨E, B, δ, fl, j, hf, w⟩ => by cases hf

theorem hp_nil  : HP M (.nil) := fun G c X S K hs P o so h0 h => by
    cases hs with
    | nil => exact ⟨[], .nil, fun _ _ _ z _ => by cases z⟩
    | cons _ _ => cases h
theorem hp_cons {k : Nat} {tb : List (Nat × Bool)} {as : Option Nat} {b : Sts} {r : Hds} (ib : BP M b) (ih : HP M r) : HP M (.cons k tb as b r) := fun G c X S K hs P o so h0 h => by
    cases hs with
    | nil => cases h
    | cons hd hs =>
      cases hd with
      | ExceptHandler t n su p =>
      cases t with
      | none => cases h
      | some t =>
      cases t <;> try (cases h; done)
      cases su with
      | nil => cases h
      | cons s0 su =>
      simp only [chkH_cons] at h
      split at h
      · rename_i z jt hz
        split at h
        · rename_i hc
          simp only [Bool.and_eq_true, decide_eq_true_eq, List.all_eq_true] at hc
          obtain ⟨⟨⟨⟨rfl, h1⟩, h2⟩, h3⟩, h4⟩ := hc
          split at h
          · rename_i p1 q1 hb hr
            split at h
            · rename_i ho
              cases h
              obtain ⟨l, hl, gl⟩ := HP.go ih o so h0 hr
              refine ⟨(tgV G.cl jt, as, fun a => rS (G.at a) (remO S as) K.su p1 (exB M b)) :: l, .cons (names_of o (List.mem_of_getElem? hz) h1 h3) (nameOk_of o h4) (fun a pn => BP.go ib (K := K.su) (o.suite a pn) (so.suite a pn) hb) hl, ?_⟩
              intro σ H E B δ cc n dd Dd fl j er nO hf w
              simp only [exH] at hf
              split at hf
              · rename_i ht
                obtain ⟨f, g1, hf⟩ := Rs.bind_ok hf
                obtain ⟨_, _, hx⟩ := o.xq _ _ _ (h2 _ (tbl_mem ht))
                refine ⟨true, hx, fun _ a na => ?_, fun z => by cases z⟩
                obtain ⟨j2, x2⟩ := j.into (as := as) na er nO
                exact ⟨E, B, _, f, j2, g1, Kont.suite h0 x2 ho hf w.left |>.ext (Sm.refl E) (Ext.refl _ _)⟩
              · rename_i ht
                obtain ⟨_, _, hx⟩ := o.xq _ _ _ (h2 _ (tbl_mem ht))
                exact ⟨false, hx, (fun z => by cases z), fun _ => gl j er nO hf w.right⟩
              · cases hf
            · cases h
          · cases h
        · cases h
      · cases h

theorem bp_nil  : BP M (.nil) := fun G c X S K xs P o so h => by
    cases xs with
    | nil =>
      cases h
      exact pss_nil.imp fun Dd σ H ⟨E, B, δ, fl, j, hf, w⟩ => by
        cases hf
        exact w S rfl E σ H (Sm.refl E) j (Ext.refl _ _)
    | cons _ _ => cases h
theorem bp_frz {i : Nat} {r : Sts} (ir : BP M r) : BP M (.frz i r) := fun G c X S K xs P o so h => by
    have h' : chkB c X.env.scope K.ret K.XL (remL S [i]) K.L r xs = some P := by cases xs <;> exact h
    exact (BP.go ir o so h').imp fun Dd σ H ⟨E, B, δ, fl, j, hf, w⟩ => ⟨E, B, δ, fl, j.weak remL_sub, hf, w.ext (Sm.refl E) (ext_weak remL_sub)⟩
theorem bp_cons {s : St} {r : Sts} (is : SP M s) (ir : BP M r) : BP M (.cons s r) := fun G c X S K xs P o so h => by
    cases xs with
    | nil => cases h
    | cons x xs =>
      simp only [chkB_nil, chkB_frz, chkB_cons] at h
      split at h
      · rename_i S' hs
        refine (pss_cons (SP.go is o so hs) (BP.go ir o so h)).imp fun Dd σ H ⟨E, B, δ, fl, j, hf, w⟩ => ?_
        simp only [exB] at hf
        obtain ⟨fl', g1, hf⟩ := Rs.bind_ok hf
        refine ⟨E, B, δ, fl', j, g1, ?_⟩
        cases fl' with
        | nx δ' =>
          intro S'' e E' σ' H' m j' x'
          cases e
          exact ⟨E', B, δ', fl, j', hf, w.ext m x'⟩
        | bk δ' => cases hf; exact w
        | ct δ' => cases hf; exact w
        | rt d => cases hf; exact w
        | er c n δ' => cases hf; exact w
      · rename_i hs
        cases h
        refine (pss_cons (SP.go is o so hs) pss_never).imp fun Dd σ H ⟨E, B, δ, fl, j, hf, w⟩ => ?_
        simp only [exB] at hf
        obtain ⟨fl', g1, hf⟩ := Rs.bind_ok hf
        refine ⟨E, B, δ, fl', j, g1, ?_⟩
        cases fl' with
        | nx δ' => exact fun S'' e => by cases e
        | bk δ' => cases hf; exact w
        | ct δ' => cases hf; exact w
        | rt d => cases hf; exact w
        | er c n δ' => cases hf; exact w
      · cases h
theorem sp_apl {i : Nat} {e : Ex} : SP M (.apl i e) := fun G c X S K x P o so h => by
    cases x <;> try (cases h; done)
    rename_i v p
    cases v <;> try (cases h; done)
    rename_i fn args kw p'
    cases fn <;> try (cases h; done)
    rename_i ob a p1
    cases ob <;> try (cases h; done)
    rename_i x px
    rcases args with _ | ⟨v, _ | ⟨_, _⟩⟩ <;> try (cases h; done)
    cases kw <;> try (cases h; done)
    simp only [chkS_apl] at h
    split at h
    · rename_i hc
      simp only [Bool.and_eq_true, decide_eq_true_eq] at hc
      obtain ⟨⟨⟨⟨⟨⟨rfl, h2⟩, h3⟩, h4⟩, h5⟩, h6⟩, h7⟩ := hc
      cases h
      exact snd_apl o h2 h3 h4 h5 h6 h7
    · cases h
theorem sp_sda {i : Nat} {k e : Ex} : SP M (.sda i k e) := fun G c X S K x P o so h => by
    cases x <;> try (cases h; done)
    rename_i v p
    cases v <;> try (cases h; done)
    rename_i fn args kw p4
    cases fn <;> try (cases h; done)
    rename_i ob a' p3
    cases ob <;> try (cases h; done)
    rename_i fn2 args2 kw2 p2
    cases fn2 <;> try (cases h; done)
    rename_i ob2 a p1
    cases ob2 <;> try (cases h; done)
    rename_i x px
    rcases args2 with _ | ⟨z, _ | ⟨w, tl⟩⟩ <;> try (cases h; done)
    cases w <;> try (cases h; done)
    rename_i le pl
    cases le <;> try (cases h; done)
    cases tl <;> try (cases h; done)
    cases kw2 <;> try (cases h; done)
    rcases args with _ | ⟨y, tl⟩ <;> try (cases h; done)
    cases y <;> try (cases h; done)
    rename_i y py
    cases tl <;> try (cases h; done)
    cases kw <;> try (cases h; done)
    simp only [chkS_sda] at h
    cases e <;> try (cases h; done)
    rename_i jv
    simp only at h
    split at h
    · rename_i hc
      simp only [Bool.and_eq_true, decide_eq_true_eq] at hc
      obtain ⟨⟨⟨⟨⟨⟨⟨⟨⟨rfl, h1⟩, rfl⟩, h2⟩, h3⟩, h4⟩, h5⟩, h6⟩, h7⟩, h8⟩ := hc
      cases h
      exact snd_sda o h1 h2 h3 h4 h5 h6 h7 h8
    · cases h
theorem allP (s : Sts) : BP M s := Sts.rec (motive_1 := SP M) (motive_2 := BP M) (motive_3 := HP M)
  (fun own i e => by cases own; exact sp_setF; exact sp_setT) (fun _ _ => sp_unp) (fun _ _ _ _ => sp_par) (fun _ _ _ => sp_seti) (fun _ _ _ => sp_puti) (fun _ _ _ => sp_sdf) (fun _ _ => sp_app) (fun _ _ _ => sp_apn) (fun _ _ => sp_apl) (fun _ _ _ => sp_sda)
  (fun _ _ => sp_ext) (fun _ _ _ => sp_aug) (fun _ => sp_ret) sp_retN (fun _ _ _ a b => sp_iff a b) (fun _ _ _ _ b => sp_for b) (fun _ _ _ b => sp_whl b) sp_brk sp_cnt sp_pas (fun _ => sp_drop) sp_nev (fun _ _ a b => sp_tri a b) (fun _ _ => sp_popu) (fun _ _ => sp_pop0)
  (fun _ _ => sp_rse) (fun _ _ _ => sp_rcl) (fun _ _ _ _ a b c => sp_trx a b c) (fun _ _ _ _ _ _ b => sp_mfor b) (fun _ _ _ _ => sp_mcl) (fun _ => sp_retM) bp_nil (fun _ _ a b => bp_cons a b) (fun _ _ a => bp_frz a) hp_nil (fun _ _ _ _ _ a b => hp_cons a b) s

theorem sndB (s : Sts) {G : Wh} {c : Cn} {X : Cx} {S : List Nat} {K : Kx} {xs : List Stmt} {P : Post} (o : Ok X G M c) (so : SOk X K.W) (h : chkB c X.env.scope K.ret K.XL S K.L s xs = some P) : PSs X xs (rS G S K P (exB M s)) := BP.go (allP s) o so h
end
end PV
namespace PV
open PySem PySem.Spec PyProof.Rows L2

/-- a def of the text -/
structure DefI where
  nm : Str
  st : Stmt
  N : List Str
  ps : List Str
  ret : Rt
  body : Sts
/-- a def called with its last arguments left out: these are dv -/
structure Ent where
  d : DefI
  dv : List D
/-- the classes: names, methods (class, name, number of the def), isinstance (of a class, to a class) -/
structure CI where
  cs : List Str
  ms : List (Nat × Str × Nat)
  ia : List (Nat × Nat × Bool)
  hfn : List Nat := []
  xt : List (Str × Option Nat) := []
  xq : List (Nat × Option Nat × Bool) := []
  xr : List (Nat × Str) := []
  xf : List (Nat × Str) := []
def isChg (r : Rt) : Bool := match r with
  | .chg => true
  | _ => false
/-- the defs that change their first argument: number, name -/
def fmOf : Nat → List Ent → List (Nat × Str)
  | _, [] => []
  | i, e :: l => if isChg e.d.ret = true then (i, e.d.nm) :: fmOf (i + 1) l else fmOf (i + 1) l
def cnOf (tab : List Ent) (gl bl : List Str) (ci : CI) (N : List Str) : Cn := ⟨N, tab.map fun e => (if isChg e.d.ret = true then "." else e.d.nm, e.d.ret.b), gl, bl, ci.cs, ci.ms, ci.ia, fmOf 0 tab, false, ci.hfn, ci.xt, ci.xq, ci.xr, ci.xf⟩
def own0 (r : Rt) : List Nat := if isChg r = true then [0] else []
theorem fmOf_at : ∀ {tab : List Ent} {i f : Nat} {x : Str}, (f, x) ∈ fmOf i tab → ∃ e, tab[f - i]? = some e ∧ i ≤ f ∧ e.d.nm = x ∧ e.d.ret = .chg
  | [], i, f, x, h => by cases h
  | e :: l, i, f, x, h => by
    have next : (f, x) ∈ fmOf (i + 1) l → ∃ e', (e :: l)[f - i]? = some e' ∧ i ≤ f ∧ e'.d.nm = x ∧ e'.d.ret = .chg := fun h => by
      obtain ⟨e', h1, h2, h3, h4⟩ := fmOf_at h
      refine ⟨e', ?_, by omega, h3, h4⟩
      have : f - i = (f - (i + 1)) + 1 := by omega
      rw [this, List.getElem?_cons_succ]; exact h1
    unfold fmOf at h
    split at h
    · rename_i hr
      rcases List.mem_cons.mp h with e1 | h
      · cases e1
        refine ⟨e, by simp, Nat.le_refl _, rfl, ?_⟩
        cases hh : e.d.ret <;> rw [hh] at hr <;> first | rfl | cases hr
      · exact next h
    · exact next h
theorem isG_dot : isG "." = false := by decide +kernel
def callF (tab : List Ent) (gv : Nat → D) (wf : Nat) : Nat → Nat → List D → Rs D
  | 0, _, _ => .st
  | k + 1, f, ds => match tab[f]? with
    | some e => if ds.length + e.dv.length = e.d.ps.length then runD ⟨callF tab gv wf k, gv, wf⟩ e.d.N.length e.d.body (ds ++ e.dv) else .st
    | none => .st
def Mk (tab : List Ent) (gv : Nat → D) (wf k : Nat) : Mn := ⟨callF tab gv wf k, gv, wf⟩
/-- the static check of a def -/
def chkD (tab : List Ent) (gl bl : List Str) (ci : CI) (d : DefI) : Bool :=
  d.N.all plainN && decide d.N.Nodup && decide (d.N.take d.ps.length = d.ps) && (match (defScope d.st).kind with | .function => true | _ => false) && !(defScope d.st).isCoroutine && !(defScope d.st).isGenerator &&
  (d.ps.all fun x => match (defScope d.st).names.lookup x with | some .local => true | some .cell => true | _ => false) && ((defScope d.st).names.all fun y => decide (y.2 ≠ .free)) &&
  (decide (d.ps ≠ []) || !isChg d.ret) && (chkB (cnOf tab gl bl ci d.N) (defScope d.st) d.ret [] (own0 d.ret) [] d.body (defBody d.st)).isSome
/-- the same while an exception is handled -/
def chkDH (tab : List Ent) (gl bl : List Str) (ci : CI) (d : DefI) : Bool := !isChg d.ret && (chkB { cnOf tab gl bl ci d.N with hot := true } (defScope d.st) d.ret [] [] [] d.body (defBody d.st)).isSome
/-- of the defs that are called then, none with defaults -/
def chkHs (tab : List Ent) (gl bl : List Str) (ci : CI) : Bool := ci.hfn.all fun f => match tab[f]? with
  | some e => decide (e.dv.length = 0) && chkDH tab gl bl ci e.d
  | none => true
structure DOk (tab : List Ent) (gl bl : List Str) (ci : CI) (d : DefI) : Prop where
  sc : FnScope d.N d.ps (defScope d.st)
  pl : d.N.all plainN = true
  ck : ∃ P, chkB (cnOf tab gl bl ci d.N) (defScope d.st) d.ret [] (own0 d.ret) [] d.body (defBody d.st) = some P
  p0 : d.ret = .chg → d.ps ≠ []
theorem dOk_of {tab : List Ent} {gl bl : List Str} {ci : CI} {d : DefI} (h : chkD tab gl bl ci d = true) : DOk tab gl bl ci d := by
  simp only [chkD, Bool.and_eq_true, decide_eq_true_eq, Bool.not_eq_true', List.all_eq_true (l := d.ps), List.all_eq_true (l := (defScope d.st).names)] at h
  obtain ⟨⟨⟨⟨⟨⟨⟨⟨⟨h1, h2⟩, h3⟩, h4⟩, h5⟩, h6⟩, h7⟩, h8⟩, h10⟩, h9⟩ := h
  refine ⟨⟨?_, h5, h6, h2, h3, fun x hx => ?_, h8⟩, h1, Option.isSome_iff_exists.mp h9, fun hr => ?_⟩
  · split at h4
    · assumption
    · cases h4
  · have q := h7 x hx
    split at q
    · exact .inl (by assumption)
    · exact .inr (by assumption)
    · cases q
  · rw [hr, Bool.or_eq_true] at h10
    rcases h10 with q | q
    · exact of_decide_eq_true q
    · cases q
/-- an exception's class, whose __init__ keeps one number -/
def InitP (K : PySem.W.Frag) (mg : Str → Option Value) (G : Wd) (i : Nat) (x : Str) : Prop :=
  ∃ (f : Str) (fI : Addr) (fd : FuncData) (ps : List Str) (sp : Sp), G.xn i = some f ∧ mg x = some (.ref (G.cl i)) ∧ OexC K (G.cl i) ∧ PySem.W.findIn K (.ref (G.cl i)) "__init__" = some (some (.ref fI)) ∧ PySem.W.typeIn K (.ref fI) = some (.type "function") ∧
    (∀ P base, K.In base → base.Ns mainGlobals mg → FnOk P G.w K mg base (L2N.CX P G.w) 1 fI fd ps sp) ∧ Binds K fd ps [] ∧
    ∀ a (n : Int) H Q E, n.natAbs.log2 < 1920 → H a = some (exo a (G.cl i) none) → (∀ H1 dx, Same H H1 → H1 dx = none → dx ≠ a → Q .non (upd (upd H1 dx (exd dx [(f, .int n)])) a (exo a (G.cl i) (some dx)))) → sp [.ref a, .int n] H Q E
/-- what the top has left of the defs and constants -/
structure Pg (K : PySem.W.Frag) (mg : Str → Option Value) (G : Wd) (tab : List Ent) (gl bl : List Str) (ci : CI) (gv : Nat → D) : Prop where
  eK : G.K = K
  fn : ∀ (f : Nat) (e : Ent), tab[f]? = some e → ∃ (a : Addr) (fd : FuncData) (nm qual : Str) (dvf : List V) (dvs : List V) (dsv : List Value), (isG e.d.nm = true → mg e.d.nm = some (.ref a)) ∧ (∀ k m, (k, m, f) ∈ ci.ms → Cls K (G.cl k) ∧ Meth K (G.cl k) m a) ∧ PySem.W.keepIn K (.ref a) = true ∧
    FunD K nm qual (defArgs e.d.st) (defBody e.d.st) (defScope e.d.st) dvf [] a fd ∧ L2.Binds K fd e.d.ps dsv ∧ Vals dvs dsv ∧ (∀ O H, Reps G O H dvs e.dv)
  ms : ∀ k m f, (k, m, f) ∈ ci.ms → f < tab.length
  mc : ∀ k m f, (k, m, f) ∈ ci.ms → ∀ e, tab[f]? = some e → isChg e.d.ret = false
  fg : ∀ (f : Nat) (e : Ent), tab[f]? = some e → e.d.ret = .chg → isG e.d.nm = true
  cs : ∀ i x, ci.cs[i]? = some x → mg x = some (.ref (G.cl i)) ∧ MkO K (G.cl i)
  ia : ∀ i k b, (i, k, b) ∈ ci.ia → MkO K (G.cl i) ∧ PySem.W.kitOne K (.ref (G.cl i)) (.ref (G.cl k)) = some b
  glo : ∀ (g : Nat) (x : Str), gl[g]? = some x → ∃ v u, mg x = some u ∧ RelV v u ∧ ∀ O H, Rep G O H v (gv g)
  blt : ∀ x, x ∈ bl → mg x = none
  xt : ∀ x j, (x, some j) ∈ ci.xt → mg x = some (.ref (G.cl j))
  xq : ∀ i j b, (i, j, b) ∈ ci.xq → XcF K (G.cl i) ∧ PySem.W.kitOne K (.ref (G.cl i)) (tgV G.cl j) = some b ∧ PySem.W.exmOne K (.ref (G.cl i)) (tgV G.cl j) = some b
  xr : ∀ i x, (i, x) ∈ ci.xr → InitP K mg G i x
  xf : ∀ i f, (i, f) ∈ ci.xf → XcF K (G.cl i) ∧ PySem.W.findIn K (.ref (G.cl i)) f = some none ∧ G.xn i = some f
  hok : chkHs tab gl bl ci = true
theorem fnok_none {P : Program} {w : World} {K : PySem.W.Frag} {mg : Str → Option Value} {base : Heap} {f : Addr} {fd : FuncData} {ps : List Str} {k : Nat} : FnOk P w K mg base (L2N.CX P w) k f fd ps fun _ _ _ _ => False :=
  ⟨fun _ _ _ _ h => h.elim, fun _ _ _ _ _ _ _ _ _ _ _ _ _ h => h.elim⟩
theorem Reps.lenD {G : Wd} {O : Addr → Prop} {H : Hp} {vs : List V} {ds : List D} (h : Reps G O H vs ds) : vs.length = ds.length := h.length
theorem start_get {vs : List V} {n i : Nat} {v : V} (h : vs[i]? = some v) : (vs.map some ++ List.replicate (n - vs.length) none)[i]? = some (some v) := by
  have hl := (List.getElem?_eq_some_iff.mp h).1
  rw [List.getElem?_append_left (by simpa using hl), List.getElem?_map, h]
  rfl
theorem start_D {ds : List D} {n i : Nat} {d : D} (h : (ds.map some ++ List.replicate (n - ds.length) none)[i]? = some (some d)) : ds[i]? = some d := by
  by_cases hl : i < ds.length
  · rw [List.getElem?_append_left (by simpa using hl), List.getElem?_map] at h
    cases q : ds[i]? with
    | none => rw [q] at h; cases h
    | some e => rw [q] at h; cases h; rfl
  · rw [List.getElem?_append_right (by simpa using hl)] at h
    have := List.mem_of_getElem? h
    rw [List.mem_replicate] at this
    cases this.2
section
variable {P : Program} {w : World} {K : PySem.W.Frag} {mg : Str → Option Value} {base : Heap} {G : Wd} {tab : List Ent} {gl bl : List Str} {ci : CI} {gv : Nat → D} {wf : Nat}
/-- what a def promises -/
def spD (G : Wd) (M : Mn) (d : DefI) : Sp := fun vs H Q E => vs.length = d.ps.length ∧ ∃ O ds x, Trk O H ∧ Reps G O H vs ds ∧ runD M d.N.length d.body ds = x ∧ match x with
    | .ok r => ∀ v H', Same H H' → RetO d.ret.b G O H H' v r → Q v H'
    | .er c n => ∀ dd H', Same H H' → H dd = none → ErrO G c n dd H' → E (.ref (G.cl c)) (some dd) H'
    | .st => False
def spM (G : Wd) (M : Mn) (d : DefI) : Sp := fun vs H Q _ => vs.length = d.ps.length ∧ SpvM G (fun _ ds => runD M d.N.length d.body ds) 0 vs H Q
theorem pass_CX {P : Program} {w : World} : PassX P w (L2N.CX P w) := fun X W σ hP hw tk => by
  subst hP hw
  exact L2N.passAt tk σ
theorem pass_CX0 {P : Program} {w : World} : ∀ X : Cx, X.prog = P → X.w = w → Passes (L2N.CX P w) X E0 := fun X _ _ _ _ _ _ _ _ _ ⟨_, _, _, _, _, _, _, _, _, _, _, _, z⟩ => z.elim
theorem raise_of {A : Around} {i : Nat} {x : Str} (ew : G.w = w) (kb : K.In base) (nb : base.Ns mainGlobals mg) (hr : Room 2 A) (h : InitP K mg G i x) : RaiseOk P w K mg base A G i x := by
  obtain ⟨f, fI, fd, ps, sp, a1, a2, a3, a4, a5, a6, a7, a8⟩ := h
  subst ew
  exact ⟨f, fI, fd, ps, sp, 1, _, a1, a2, a3, a4, a5, a6 P base kb nb, hr, a7, fun X hP hw => (by subst hP; exact fun _ _ _ _ _ _ _ ⟨_, _, _, _, _, _, _, _, _, _, _, _, z⟩ => z.elim), a8⟩
theorem nx_or {r : Rt} (h : isChg r = false) : r ≠ .chg := fun z => by subst z; cases h
/-- what is known of the defs that are called -/
structure Lv (P : Program) (w : World) (K : PySem.W.Frag) (mg : Str → Option Value) (base : Heap) (G : Wd) (tab : List Ent) (gl bl : List Str) (ci : CI) (M : Mn) (j : Nat) : Prop where
  c : ∀ (A : Around), Room j A → ∀ N f x r, (cnOf tab gl bl ci N).fn[f]? = some (x, r) → isG x = true → CallC P w K mg base A G M f x r
  m : ∀ (A : Around), Room j A → ∀ i m f, (i, m, f) ∈ ci.ms → ∃ r, MethOk P w K mg base A G M i m f r
  f : ∀ (A : Around), Room j A → ∀ N f x, (f, x) ∈ (cnOf tab gl bl ci N).fm → CallM P w K mg base A G M f x
  h : ∀ (A : Around), L2H.RoomH j A → ∀ N f x r, (cnOf tab gl bl ci N).fn[f]? = some (x, r) → isG x = true → f ∈ ci.hfn → CallH P w K mg base A G M f x r
/-- a def's body, by the evaluator -/
theorem def_okC (ew : G.w = w) (pg : Pg K mg G tab gl bl ci gv) {d : DefI} {k : Nat} {nm qual : Str} {f : Addr} {cdv : Value} {A : Around} {outer : List PySem.Env} {s : Shared} {H : Hp} {E : XK} (dk : DOk tab gl bl ci d)
    (lv : Lv P w K mg base G tab gl bl ci (Mk tab gv wf k) (k + 2)) (kb : K.In base) (nb : base.Ns mainGlobals mg) (hr : Room (k + 2) (A.deeper (envOfC qual (defScope d.st) s.heap.objs.size f cdv))) :
    Ok (cxOf (L2N.CX P w) P w K mg base d.N qual (defScope d.st) f cdv A outer s H E) ⟨G, none⟩ (Mk tab gv wf k) (cnOf tab gl bl ci d.N) ∧ SOk (cxOf (L2N.CX P w) P w K mg base d.N qual (defScope d.st) f cdv A outer s H E) (fun cls d _ H => E cls d H) :=
  ⟨⟨pg.eK, ew, rfl, dk.sc.nd, dk.pl, (fun _ => rfl), .inl ⟨rfl, rfl, rfl⟩, by have h := hr.un; show (A.deeper (envOfC qual (defScope d.st) s.heap.objs.size f cdv)).units + 65 < cLine; omega, fun f x r e g _ => lv.c _ hr d.N f x r e g, fun f x r e g h => lv.h _ (L2H.roomH_of hr) d.N f x r e g h,
    fun i m f e _ => lv.m _ hr i m f e, pg.cs, pg.ia, pg.glo, pg.blt, fun f x e _ => lv.f _ hr d.N f x e, pg.xt, pg.xq, fun i x e _ => raise_of ew kb nb (hr.mono (by omega)) (pg.xr i x e), pg.xf⟩,
    ⟨fun _ => rfl, passes_of rfl, dk.sc.kind, L2N.takes_of rfl rfl rfl rfl, rfl, rfl⟩⟩
theorem def_ok (ew : G.w = w) (pg : Pg K mg G tab gl bl ci gv) {d : DefI} (dk : DOk tab gl bl ci d) (hd : isChg d.ret = false) {k : Nat} {f : Addr} {fd : FuncData} {nm qual : Str} {dvf : List V} (F : FunD K nm qual (defArgs d.st) (defBody d.st) (defScope d.st) dvf [] f fd)
    (lv : Lv P w K mg base G tab gl bl ci (Mk tab gv wf k) (k + 2)) (kb : K.In base) (nb : base.Ns mainGlobals mg) :
    FnOk P w K mg base (L2N.CX P w) (k + 3) f fd d.ps (spD G (Mk tab gv wf k) d) := by
  obtain ⟨Pt, hP⟩ := dk.ck
  obtain ⟨oc, od, dV, kV, doc, pm, an, cdv, ct, osl, rfl, lk, hcd, _, _⟩ := F.ex
  refine fn_of lk hcd dk.sc (fun vs H Q E h => h.1) fun A outer s H vs Q E hr hsp => ?_
  obtain ⟨hlen, O, ds, x, tO, rep, hrun, kk⟩ := hsp
  obtain ⟨o, so⟩ := def_okC (P := P) (base := base) (wf := wf) (nm := nm) (outer := outer) (E := E) (H := H) ew pg dk lv kb nb hr
  have h0 : own0 d.ret = [] := if_neg (by rw [hd]; exact Bool.false_ne_true)
  rw [h0] at hP
  refine ⟨_, sndB (M := Mk tab gv wf k) (K := ⟨[], [], d.ret, fun cls d _ H => E cls d H⟩) d.body o so hP, ?_⟩
  have j0 : J ⟨G, none⟩ [] ⟨O, fun _ _ => False, none⟩ H (L2.start d.N vs) H (ds.map some ++ List.replicate (d.N.length - ds.length) none) := by
    refine ⟨?_, (fun i e _ he => ?_), (fun i hi => nomatch hi), (fun i _ hi => nomatch hi), tO, (fun a u e => ⟨e, fun ⟨i, hi, _⟩ => nomatch hi⟩), (fun p e => nomatch e), fun a e => nomatch e⟩
    · simp [L2.start, rep.length]
    · obtain ⟨v, ev, rv⟩ := rep.get (start_D he)
      refine ⟨v, start_get ev, rv.less fun a z => ?_⟩
      rcases z with z | ⟨i, hi, _⟩
      · exact z
      · cases hi
  unfold runD at hrun
  cases hb : exB (Mk tab gv wf k) d.body (ds.map some ++ List.replicate (d.N.length - ds.length) none) with
  | st => rw [hb] at hrun; subst hrun; exact kk.elim
  | er c n => rw [hb] at hrun; subst hrun; exact kk.elim
  | ok fl =>
    rw [hb] at hrun
    have hrun : onR fl = x := hrun
    refine ⟨⟨O, fun _ _ => False, none⟩, H, _, fl, j0, hb, ?_⟩
    cases fl with
    | nx δ' =>
      subst hrun
      intro S' e E' σ' H' m j' x'
      refine kk _ H' j'.sameB ?_
      cases hh : d.ret with
      | frz => exact Rep.non
      | new => exact .inr ⟨rfl, .non⟩
      | chg => rw [hh] at hd; cases hd
    | rt r' =>
      subst hrun
      show RtK d.ret G _ H r' _
      cases hh : d.ret with
      | frz => rw [hh] at kk; exact kk
      | new => rw [hh] at kk; exact kk
      | chg => rw [hh] at hd; cases hd
    | bk _ => subst hrun; exact kk.elim
    | ct _ => subst hrun; exact kk.elim
    | er c n δ' =>
      subst hrun
      exact fun E' σ' H' dd m j' x' er _ bn => kk dd H' j'.sameB bn er
/-- while an exception is handled -/
def spT (G : Wd) (M : Mn) (d : DefI) : Addr → Sp := fun hx vs H Q _ => vs.length = d.ps.length ∧ SpvT G (fun _ ds => runD M d.N.length d.body ds) 0 d.ret.b hx vs H Q
theorem def_okT (ew : G.w = w) (pg : Pg K mg G tab gl bl ci gv) {d : DefI} (dk : DOk tab gl bl ci d) (ck : chkDH tab gl bl ci d = true) {k : Nat} {f : Addr} {fd : FuncData} {nm qual : Str} {dvf : List V} (F : FunD K nm qual (defArgs d.st) (defBody d.st) (defScope d.st) dvf [] f fd)
    (lv : Lv P w K mg base G tab gl bl ci (Mk tab gv wf k) (k + 2)) : FnT P w K mg base (L2N.CX P w) (k + 3) f fd d.ps (spT G (Mk tab gv wf k) d) := by
  simp only [chkDH, Bool.and_eq_true, Bool.not_eq_true'] at ck
  obtain ⟨hd, ck⟩ := ck
  obtain ⟨Pt, hP⟩ := Option.isSome_iff_exists.mp ck
  obtain ⟨oc, od, dV, kV, doc, pm, an, cdv, ct, osl, rfl, lk, hcd, _, _⟩ := F.ex
  refine fn_hot lk hcd dk.sc (fun a vs H Q E h => h.1) fun A outer s H vs Q E a hx hxo hr hsp => ?_
  obtain ⟨hlen, O, ds, r, tO, nO, rep, hrun, kk⟩ := hsp
  have o : Ok (cxT (L2N.CX P w) P w K mg base d.N qual (defScope d.st) f cdv A outer s H E) ⟨G, some a⟩ (Mk tab gv wf k) { cnOf tab gl bl ci d.N with hot := true } :=
    ⟨pg.eK, ew, rfl, dk.sc.nd, dk.pl, (fun z => nomatch z), .inr ⟨a, rfl, hx, rfl⟩, by have h := hr.un; show (A.deeper (envOfC qual (defScope d.st) s.heap.objs.size f cdv)).units + 65 < cLine; omega, (fun _ _ _ _ _ z => nomatch z), fun f x r e g h => lv.h _ hr d.N f x r e g h,
      (fun _ _ _ _ z => nomatch z), pg.cs, pg.ia, pg.glo, pg.blt, (fun _ _ _ z => nomatch z), pg.xt, pg.xq, (fun _ _ _ z => nomatch z), pg.xf⟩
  have so : SOk (cxT (L2N.CX P w) P w K mg base d.N qual (defScope d.st) f cdv A outer s H E) (fun cls d _ H => E cls d H) := ⟨fun _ => rfl, passes_of rfl, dk.sc.kind, L2N.takes_of rfl rfl rfl rfl, rfl, rfl⟩
  refine ⟨_, sndB (M := Mk tab gv wf k) (K := ⟨[], [], d.ret, fun cls d _ H => E cls d H⟩) d.body o so hP, ?_⟩
  have j0 : J ⟨G, some a⟩ [] ⟨O, fun _ _ => False, none⟩ H (L2.start d.N vs) H (ds.map some ++ List.replicate (d.N.length - ds.length) none) := by
    refine ⟨?_, (fun i e _ he => ?_), (fun i hi => nomatch hi), (fun i _ hi => nomatch hi), tO, (fun a u e => ⟨e, fun ⟨i, hi, _⟩ => nomatch hi⟩), (fun p e => nomatch e), fun b e => ?_⟩
    · simp [L2.start, rep.length]
    · obtain ⟨v, ev, rv⟩ := rep.get (start_D he)
      refine ⟨v, start_get ev, rv.less fun a z => ?_⟩
      rcases z with z | ⟨i, hi, _⟩
      · exact z
      · cases hi
    · cases e
      refine ⟨hxo, fun z => ?_⟩
      rcases z with z | ⟨i, hi, _⟩
      · exact nO z
      · cases hi
  have hrun : nE (exB (Mk tab gv wf k) d.body (ds.map some ++ List.replicate (d.N.length - ds.length) none)) >>= onR = .ok r := hrun
  cases hb : exB (Mk tab gv wf k) d.body (ds.map some ++ List.replicate (d.N.length - ds.length) none) with
  | st => rw [hb] at hrun; cases hrun
  | er c n => rw [hb] at hrun; cases hrun
  | ok fl =>
    rw [hb] at hrun
    have hrun : onR fl = .ok r := hrun
    refine ⟨⟨O, fun _ _ => False, none⟩, H, _, fl, j0, hb, ?_⟩
    cases fl with
    | nx δ' =>
      cases hrun
      intro S' e E' σ' H' m j' x'
      refine kk _ H' j'.sameB ?_
      cases hh : d.ret with
      | frz => exact Rep.non
      | new => exact .inr ⟨rfl, .non⟩
      | chg => rw [hh] at hd; cases hd
    | rt r' =>
      cases hrun
      show RtK d.ret G _ H _ _
      cases hh : d.ret with
      | frz => rw [hh] at kk; exact kk
      | new => rw [hh] at kk; exact kk
      | chg => rw [hh] at hd; cases hd
    | bk _ => cases hrun
    | ct _ => cases hrun
    | er c n δ' => cases hrun
theorem def_okM (ew : G.w = w) (pg : Pg K mg G tab gl bl ci gv) {d : DefI} (dk : DOk tab gl bl ci d) (hd : d.ret = .chg) {k : Nat} {f : Addr} {fd : FuncData} {nm qual : Str} {dvf : List V} (F : FunD K nm qual (defArgs d.st) (defBody d.st) (defScope d.st) dvf [] f fd)
    (lv : Lv P w K mg base G tab gl bl ci (Mk tab gv wf k) (k + 2)) (kb : K.In base) (nb : base.Ns mainGlobals mg) :
    FnOk P w K mg base (L2N.CX P w) (k + 3) f fd d.ps (spM G (Mk tab gv wf k) d) := by
  obtain ⟨Pt, hP⟩ := dk.ck
  obtain ⟨oc, od, dV, kV, doc, pm, an, cdv, ct, osl, rfl, lk, hcd, _, _⟩ := F.ex
  refine fn_of lk hcd dk.sc (fun vs H Q E h => h.1) fun A outer s H vs Q E hr hsp => ?_
  obtain ⟨hlen, O, Fp, p, d0, vs', ds, r, d1, rfl, tO, hFO, ow, rep, hrun, kk⟩ := hsp
  obtain ⟨o, so⟩ := def_okC (P := P) (base := base) (wf := wf) (nm := nm) (outer := outer) (E := E) (H := H) ew pg dk lv kb nb hr
  have h0 : own0 d.ret = [0] := if_pos (by rw [hd]; rfl)
  rw [h0] at hP
  refine ⟨_, sndB (M := Mk tab gv wf k) (K := ⟨[], [], d.ret, fun cls d _ H => E cls d H⟩) d.body o so hP, ?_⟩
  have hl : vs'.length = ds.length := rep.length
  have j0 : J ⟨G, none⟩ [0] ⟨O, fun i a => i = 0 ∧ Fp a, some p⟩ (hide H Fp) (L2.start d.N (.ref p :: vs')) H ((d0 :: ds).map some ++ List.replicate (d.N.length - (d0 :: ds).length) none) := by
    have eO : ∀ a, OS [0] ⟨O, fun i a => i = 0 ∧ Fp a, some p⟩ (L2.start d.N (.ref p :: vs')) a → O a ∨ Fp a := fun a z => by
      rcases z with z | ⟨i, _, _, z⟩
      · exact .inl z
      · exact .inr z
    have e0 : (L2.start d.N (.ref p :: vs'))[0]? = some (some (.ref p)) := rfl
    refine ⟨?_, (fun i e hi he => ?_), (fun i hi => ?_), (fun i j hi hj hn => ?_), tO, (fun a u e => ?_), (fun q e _ => ?_), fun a e => nomatch e⟩
    · simp [L2.start, hl]
    · have hi0 : i ≠ 0 := fun z => hi (by simp [z])
      have := start_D he
      obtain ⟨i', rfl⟩ : ∃ i', i = i' + 1 := ⟨i - 1, by omega⟩
      obtain ⟨v, ev, rv⟩ := rep.get (by simpa using this)
      exact ⟨v, start_get (by simpa using ev), rv.less eO⟩
    · have : i = 0 := by simpa using hi
      subst this
      have ef : (fun a => (0 : Nat) = 0 ∧ Fp a) = Fp := by funext a; simp
      refine ⟨p, d0, e0, rfl, fun a f => hFO a f.2, ?_⟩
      show Own G _ (fun a => (0 : Nat) = 0 ∧ Fp a) H p d0
      rw [ef]
      exact ow.less eO
    · have h1 : i = 0 := by simpa using hi
      have h2 : j = 0 := by simpa using hj
      exact absurd (h1.trans h2.symm) hn
    · obtain ⟨e1, n1⟩ := hide_some e
      exact ⟨e1, fun ⟨i, _, _, f⟩ => n1 f⟩
    · cases e; exact e0
  unfold runD at hrun
  obtain ⟨fl, hb, hrun⟩ := Rs.bind_ok hrun
  have hb : exB (Mk tab gv wf k) d.body ((d0 :: ds).map some ++ List.replicate (d.N.length - (d0 :: ds).length) none) = .ok fl := by
    revert hb
    cases exB (Mk tab gv wf k) d.body ((d0 :: ds).map some ++ List.replicate (d.N.length - (d0 :: ds).length) none) with
    | ok f => exact fun h => h
    | st => exact fun h => h
    | er c n => exact fun h => by cases h
  refine ⟨_, _, _, fl, j0, hb, ?_⟩
  cases fl with
  | nx δ' => cases hrun
  | rt r' =>
    cases hrun
    show RtK d.ret G _ _ _ _
    rw [hd]
    intro d' d0' p' v F' H' e hp sB hF' ow' rm
    cases e
    have := hp p rfl
    subst this
    exact kk v F' H' sB hF' ow' rm
  | bk _ => cases hrun
  | ct _ => cases hrun
  | er c n δ' => cases hrun
/-- a def of the table, by levels: what it does, where it stands -/
def EntOk (P : Program) (w : World) (K : PySem.W.Frag) (mg : Str → Option Value) (base : Heap) (j : Nat) (G : Wd) (M : Mn) (f : Nat) (r : Rt) (a : Addr) : Prop :=
  ∃ (fd : FuncData) (ps : List Str) (sp : Sp) (dvs : List V) (dsv : List Value) (k : Nat) (CX : CXT), k ≤ j ∧ FnOk P w K mg base CX k a fd ps sp ∧ Binds K fd ps dsv ∧ Vals dvs dsv ∧
    PassX P w CX ∧ (∀ X : Cx, X.prog = P → X.w = w → Passes CX X E0) ∧ (isChg r = false → ∀ vs H Q E, Spv G M.F f r.b vs H Q E → sp (vs ++ dvs) H Q E) ∧ (r = .chg → ∀ vs H Q, SpvM G M.F f vs H Q → sp (vs ++ dvs) H Q E0)
def EntH (P : Program) (w : World) (K : PySem.W.Frag) (mg : Str → Option Value) (base : Heap) (j : Nat) (G : Wd) (M : Mn) (f : Nat) (r : Rt) (a : Addr) : Prop :=
  ∃ (fd : FuncData) (ps : List Str) (sp : Addr → Sp) (k : Nat) (CX : CXT), k ≤ j ∧ FnT P w K mg base CX k a fd ps sp ∧ Binds K fd ps [] ∧ (∀ X : Cx, X.prog = P → X.w = w → Passes CX X E0) ∧ ∀ hx vs H Q, SpvT G M.F f r.b hx vs H Q → sp hx vs H Q E0
theorem call_of (ew : G.w = w) (pg : Pg K mg G tab gl bl ci gv) {j : Nat} {M : Mn} (hms : ∀ k m f, (k, m, f) ∈ ci.ms → ∀ e, tab[f]? = some e → isChg e.d.ret = false) (h : ∀ (f : Nat) (e : Ent) (a : Addr) (fd : FuncData) (nm qual : Str) (dvf dvs : List V) (dsv : List Value), tab[f]? = some e → FunD K nm qual (defArgs e.d.st) (defBody e.d.st) (defScope e.d.st) dvf [] a fd → L2.Binds K fd e.d.ps dsv → Vals dvs dsv → (∀ O H, Reps G O H dvs e.dv) → EntOk P w K mg base j G M f e.d.ret a)
    (hH : ∀ (f : Nat) (e : Ent) (a : Addr) (fd : FuncData) (nm qual : Str) (dvf dvs : List V) (dsv : List Value), tab[f]? = some e → f ∈ ci.hfn → FunD K nm qual (defArgs e.d.st) (defBody e.d.st) (defScope e.d.st) dvf [] a fd → L2.Binds K fd e.d.ps dsv → Vals dvs dsv → (∀ O H, Reps G O H dvs e.dv) → EntH P w K mg base j G M f e.d.ret a) :
    Lv P w K mg base G tab gl bl ci M j := by
  have nm_of : ∀ {N : List Str} {f : Nat} {x : Str} {r : Bool}, (cnOf tab gl bl ci N).fn[f]? = some (x, r) → isG x = true → ∃ e, tab[f]? = some e ∧ e.d.nm = x ∧ e.d.ret.b = r ∧ isChg e.d.ret = false := fun {N f x r} hf hG => by
    rw [cnOf, List.getElem?_map] at hf
    cases q : tab[f]? with
    | none => rw [q] at hf; cases hf
    | some e =>
      rw [q] at hf
      have hc : isChg e.d.ret = false := by
        cases hh : isChg e.d.ret with
        | false => rfl
        | true =>
          rw [Option.map_some, hh, if_pos rfl] at hf
          injection hf with hf
          injection hf with hf1 hf2
          rw [← hf1, isG_dot] at hG; cases hG
      rw [Option.map_some, if_neg (by rw [hc]; exact Bool.false_ne_true)] at hf
      cases hf
      exact ⟨e, rfl, rfl, rfl, hc⟩
  refine ⟨?_, ?_, ?_, ?_⟩
  · intro A hr N f x r hf hG
    obtain ⟨e, q, rfl, rfl, hc⟩ := nm_of hf hG
    obtain ⟨a, fd, nm, qual, dvf, dvs, dsv, h1, h0, h2, h3, h4, h5, h6⟩ := pg.fn f e q
    obtain ⟨fd', ps, sp, dvs', dsv', k, CX, zk, z1, z3, z4, z5, z6, z7, _⟩ := h f e a fd nm qual dvf dvs dsv q h3 h4 h5 h6
    exact ⟨a, fd', ps, sp, dvs', dsv', k, CX, h1 hG, h2, z1, hr.mono zk, z3, z4, z5, z6, z7 hc⟩
  · intro A hr i m f hm
    have hl := pg.ms i m f hm
    have q : tab[f]? = some tab[f] := List.getElem?_eq_getElem hl
    obtain ⟨a, fd, nm, qual, dvf, dvs, dsv, h1, h0, h2, h3, h4, h5, h6⟩ := pg.fn f _ q
    obtain ⟨fd', ps, sp, dvs', dsv', k, CX, zk, z1, z3, z4, z5, z6, z7, _⟩ := h f _ a fd nm qual dvf dvs dsv q h3 h4 h5 h6
    exact ⟨_, a, fd', ps, sp, dvs', dsv', k, CX, (h0 i m hm).1, (h0 i m hm).2, z1, hr.mono zk, z3, z4, z6, z7 (hms i m f hm _ q)⟩
  · intro A hr N f x hf
    obtain ⟨e, q, _, rfl, hc⟩ := fmOf_at (show (f, x) ∈ fmOf 0 tab from hf)
    rw [Nat.sub_zero] at q
    obtain ⟨a, fd, nm, qual, dvf, dvs, dsv, h1, h0, h2, h3, h4, h5, h6⟩ := pg.fn f e q
    obtain ⟨fd', ps, sp, dvs', dsv', k, CX, zk, z1, z3, z4, z5, z6, _, z8⟩ := h f e a fd nm qual dvf dvs dsv q h3 h4 h5 h6
    have hG : isG e.d.nm = true := pg.fg f e q hc
    exact ⟨a, fd', ps, sp, dvs', dsv', k, CX, h1 hG, h2, z1, hr.mono zk, z3, z4, z6, z8 hc⟩
  · intro A hr N f x r hf hG hh
    obtain ⟨e, q, rfl, rfl, hc⟩ := nm_of hf hG
    obtain ⟨a, fd, nm, qual, dvf, dvs, dsv, h1, h0, h2, h3, h4, h5, h6⟩ := pg.fn f e q
    obtain ⟨fd', ps, sp, k, CX, zk, z1, z3, z6, z7⟩ := hH f e a fd nm qual dvf dvs dsv q hh h3 h4 h5 h6
    exact ⟨a, fd', ps, sp, k, CX, h1 hG, h2, z1, hr.mono zk, z3, z6, z7⟩
theorem fnt_none {P : Program} {w : World} {K : PySem.W.Frag} {mg : Str → Option Value} {base : Heap} {f : Addr} {fd : FuncData} {ps : List Str} {k : Nat} : FnT P w K mg base (L2N.CX P w) k f fd ps fun _ _ _ _ _ => False :=
  ⟨fun _ _ _ _ _ h => h.elim, fun _ _ _ _ _ _ _ _ _ _ _ _ _ _ _ _ h => h.elim⟩
theorem hot_at_tab (pg : Pg K mg G tab gl bl ci gv) {f : Nat} {e : Ent} (q : tab[f]? = some e) (h : f ∈ ci.hfn) : e.dv = [] ∧ chkDH tab gl bl ci e.d = true := by
  have := List.all_eq_true.mp pg.hok f h
  rw [q, Bool.and_eq_true, decide_eq_true_eq] at this
  exact ⟨List.eq_nil_of_length_eq_zero this.1, this.2⟩
theorem vals_nil {G : Wd} {O : Addr → Prop} {H : Hp} {dvs : List V} {ds : List Value} (h : Reps G O H dvs []) (r : Vals dvs ds) : dvs = [] ∧ ds = [] := by
  cases h
  cases r
  exact ⟨rfl, rfl⟩
/-- all defs, by levels -/
theorem all_ok (ew : G.w = w) (pg : Pg K mg G tab gl bl ci gv) (kb : K.In base) (nb : base.Ns mainGlobals mg) (dk : ∀ (f : Nat) (e : Ent), tab[f]? = some e → DOk tab gl bl ci e.d) : ∀ (k : Nat), Lv P w K mg base G tab gl bl ci (Mk tab gv wf k) (k + 2)
  | 0 => call_of ew pg pg.mc (fun f e a fd nm qual dvf dvs dsv q h3 h4 h5 h6 => ⟨fd, e.d.ps, _, dvs, dsv, 0, L2N.CX P w, Nat.zero_le _, fnok_none, h4, h5, pass_CX, pass_CX0, fun _ vs H Q E ⟨O, ds, r, _, _, z, y⟩ => by
      have z' : Rs.st = r := z
      subst z'; exact y, fun _ vs H Q ⟨O, F, p, d0, vs', ds, d, d1, _, _, _, _, _, z, _⟩ => by cases z⟩)
      (fun f e a fd nm qual dvf dvs dsv q hh h3 h4 h5 h6 => by
        obtain ⟨e1, e2⟩ := hot_at_tab pg q hh
        rw [e1] at h6
        obtain ⟨_, rfl⟩ := vals_nil (h6 (fun _ => False) (fun _ => none)) h5
        exact ⟨fd, e.d.ps, _, 0, L2N.CX P w, Nat.zero_le _, fnt_none, h4, pass_CX0, fun _ vs H Q ⟨O, ds, r, _, _, _, z, y⟩ => by cases z⟩)
  | k + 1 => call_of ew pg pg.mc (fun f e a fd nm qual dvf dvs dsv q h3 h4 h5 h6 => by
    have lv := all_ok ew pg kb nb dk k
    cases hh : isChg e.d.ret with
    | false =>
      refine ⟨fd, e.d.ps, _, dvs, dsv, k + 3, L2N.CX P w, Nat.le_refl _, def_ok ew pg (dk f e q) hh h3 lv kb nb, h4, h5, pass_CX, pass_CX0, fun _ vs H Q E ⟨O, ds, r, tO, rep, z, kk⟩ => ?_, fun h => by rw [h] at hh; cases hh⟩
      have hv := (h6 O H).length
      simp only [Mk, callF, q] at z
      split at z
      · rename_i hl
        exact ⟨by rw [List.length_append, rep.length, hv]; exact hl, O, ds ++ e.dv, r, tO, rep.append (h6 O H), z, kk⟩
      · subst z; exact kk.elim
    | true =>
      have hc : e.d.ret = .chg := by cases h : e.d.ret <;> rw [h] at hh <;> first | rfl | cases hh
      refine ⟨fd, e.d.ps, _, dvs, dsv, k + 3, L2N.CX P w, Nat.le_refl _, def_okM ew pg (dk f e q) hc h3 lv kb nb, h4, h5, pass_CX, pass_CX0, (fun h => absurd (h.symm.trans hh) Bool.false_ne_true), fun _ vs H Q ⟨O, F, p, d0, vs', ds, d, d1, e1, tO, hFO, ow, rep, z, kk⟩ => ?_⟩
      subst e1
      simp only [Mk, callF, q] at z
      split at z
      · rename_i hl
        have hv := (h6 (fun a => O a ∨ F a) H).length
        refine ⟨?_, O, F, p, d0, vs' ++ dvs, ds ++ e.dv, d, d1, rfl, tO, hFO, ow, rep.append (h6 _ H), z, kk⟩
        rw [List.length_append, List.length_cons, rep.length, hv, ← hl, List.length_cons]
      · cases z)
    (fun f e a fd nm qual dvf dvs dsv q hh h3 h4 h5 h6 => by
      have lv := all_ok ew pg kb nb dk k
      obtain ⟨e1, e2⟩ := hot_at_tab pg q hh
      rw [e1] at h6
      obtain ⟨_, rfl⟩ := vals_nil (h6 (fun _ => False) (fun _ => none)) h5
      refine ⟨fd, e.d.ps, _, k + 3, L2N.CX P w, Nat.le_refl _, def_okT ew pg (dk f e q) e2 h3 lv, h4, pass_CX0, fun hx vs H Q ⟨O, ds, r, tO, nO, rep, z, kk⟩ => ?_⟩
      simp only [Mk, callF, q] at z
      rw [e1] at z
      simp only [List.length_nil, Nat.add_zero, List.append_nil] at z
      split at z
      · rename_i hl
        exact ⟨by rw [rep.length]; exact hl, O, ds, r, tO, nO, rep, z, kk⟩
      · cases z)
end
/-- the law's promise -/
def spLaw (K : PySem.W.Frag) : Sp := fun vs H Q _ => ∃ (a : Addr) (ns : List Int), vs = [.ref a] ∧ SqL K H a (ns.map V.int) ∧ Only H ∧ ns.length ≤ 63 ∧ ∀ H', Q (.bl true) H'
theorem reps_script {G : Wd} {O : Addr → Prop} {H : Hp} : ∀ ns : List Int, Reps G O H (ns.map V.int) (ns.map D.int)
  | [] => .nil
  | n :: ns => .cons (.int n) (reps_script ns)
section
variable {P : Program} {w : World} {K : PySem.W.Frag} {mg : Str → Option Value} {base : Heap} {G : Wd} {tab : List Ent} {gl bl : List Str} {ci : CI} {gv : Nat → D} {wf : Nat}
theorem law_ok (ew : G.w = w) (pg : Pg K mg G tab gl bl ci gv) (dk : ∀ (f : Nat) (e : Ent), tab[f]? = some e → DOk tab gl bl ci e.d) {d : DefI} (dl : DOk tab gl bl ci d) (kb : K.In base) (nb : base.Ns mainGlobals mg) (hd : isChg d.ret = false) (hps : d.ps.length = 1) {k : Nat} {f : Addr} {fd : FuncData} {nm qual : Str} {dvf : List V}
    (F : FunD K nm qual (defArgs d.st) (defBody d.st) (defScope d.st) dvf [] f fd) (holds : ∀ ns : List Int, ns.length ≤ 63 → runD (Mk tab gv wf k) d.N.length d.body [.lst (ns.map D.int)] = .ok (.bl true)) :
    FnOk P w K mg base (L2N.CX P w) (k + 3) f fd d.ps (spLaw K) := by
  refine (def_ok (P := P) (w := w) (base := base) (wf := wf) ew pg dl hd F (all_ok ew pg kb nb dk k) kb nb).imp fun vs H Q E h => ?_
  obtain ⟨a, ns, rfl, hS, hO, hl, kk⟩ := h
  have hr : Rep G (fun _ => False) H (.ref a) (.lst (ns.map D.int)) := by
    rcases hS with hS | hS
    · exact .lst hS (fun z => z) (reps_script ns)
    · exact .lstK (fun H' => pg.eK ▸ .inr hS) (reps_script ns)
  refine ⟨by rw [hps]; rfl, fun _ => False, [.lst (ns.map D.int)], .ok (.bl true), fun a z => z.elim, .cons hr .nil, holds ns hl, fun v H' s r => ?_⟩
  have : v = .bl true := RepB.bl (G := G) (O := fun _ => False) (H := H') (.inl (RetO.rep r fun a z => z.elim))
  subst this
  exact kk H'
end
end PV
set_option maxHeartbeats 2000000
namespace PV
open PySem PySem.Spec PyProof.Rows L2

/-! ### __init__(self, n): BASE.__init__(self, text); self.f = n -/
/-- the class whose __init__ is called: it has ValueError's -/
structure BaseE (K : PySem.W.Frag) (B : Addr) : Prop where
  rd : PySem.W.readsIn K B (.type "type") = true
  fd : PySem.W.findCls K (.ref B) (.type "type") "__init__" = some (.val (.builtin "ValueError.__init__"))
  sp : PySem.W.specialIn K (.ref B) "__getattribute__" = some (some (.builtin "type.__getattribute__"))
theorem mc_form {xs : List Expr} {env : PySem.Env} {pos : Pos} (n : xs.all noStar = true) (h30 : xs.length < 30) : methodCallForm (xs.length + 0) (backTo pos (starEach xs env)) (backToKw pos (keywordEach [] env)) = true := by
  unfold methodCallForm
  rw [Bool.and_eq_true, Bool.and_eq_true, decide_eq_true_eq]
  refine ⟨⟨?_, rfl⟩, (show xs.length + 0 + (if true = true then 0 else 1) < 30 by simpa using h30)⟩
  have := starEach_none (env := env) (pos := pos) n
  rw [List.any_eq_false] at this
  rw [List.all_eq_true]
  intro x hx
  have := this x hx
  simpa using this
section
variable {X : Cx}
theorem pe_binit {B : Addr} {x : Str} {e : Expr} {es : List Expr} {ta : TA} {p1 p2 pos : Pos} (hg : Gl X x) (hm : X.mg x = some (.ref B)) (hp : (x == ("__debug__" : Str)) = false) (b : BaseE X.K B) (ha : PA X (e :: es) ta) (n : (e :: es).all noStar = true) (h30 : (e :: es).length < 30) (hl : (p2.endLine == pos.line) = true) :
    PE X (.Call (.Attribute (.Name x p1) "__init__" p2) (e :: es) [] pos) (tVeI X.K ta) := by
  have me := meth_eq (y := x) (m := "__init__") (yp := p1) (apos := p2) (pos := pos) (xs := e :: es) (env := X.env) (mc_form n h30) hl
  rw [List.all_cons, Bool.and_eq_true] at n
  refine ⟨fun pins s σ H Q I h => PySem.W.methodCall_KW (ld_glob I hg hm ?_ hp) me⟩
  refine PySem.W.method_cls I.kIn b.sp (PySem.W.cls_value I.kIn b.rd b.fd (by decide) ?_)
  show wpAny _ _ (callWith pos (Value.builtin "ValueError.__init__") [] (backTo pos (starEach (e :: es) X.env)) []) _ _ _
  refine PyProof.Rows.callWith_method1 (thn (ha.run pos pins _ σ H _ (I.tok _) h) fun us s1 ⟨vs, H1, I1, r1, a, C, ws, ev, hw, T, ea, q⟩ => ?_) (starEach_cons n.1) (starEach_none n.2)
  subst ev
  cases r1 with
  | @cons _ u0 _ ur ra rw' =>
    obtain rfl : u0 = Value.ref a := ra
    have hlen : ur.length ≤ sizeLine := by
      rw [← Paired.length rw', sizeLine_eq]
      omega
    exact oinit_ok T I1 ea hlen fun s' J => ⟨.non, H1, J, rfl, q⟩
end
/-- an __init__ of that kind, its text by the evaluator -/
structure InitI where
  base : Str
  s : Str
  p : Str
  f : Str
  tx : Ex
  st : Stmt
def InitI.cn (d : InitI) : Cn := { N := [d.s, d.p], fn := [], gl := [], bl := [], cs := [], ms := [], ia := [] }
def InitI.body (d : InitI) : List Stmt → Bool
  | [.Expr (.Call (.Attribute (.Name b p1) m p2) [.Name s ps, e] [] p3) _, .Assign [.Attribute (.Name s2 p4) f _] (.Name p p5) _] =>
    decide (b = d.base) && decide (m = "__init__") && glb (defScope d.st) d.base && plainN d.base && (p2.endLine == p3.line) && chkE d.cn (defScope d.st) [] (.var 0) (.Name s ps) && chkE d.cn (defScope d.st) [] d.tx e && nb d.cn [] d.tx && noStar e &&
      decide (f = d.f) && chkE d.cn (defScope d.st) [] (.var 0) (.Name s2 p4) && chkE d.cn (defScope d.st) [] (.var 1) (.Name p p5)
  | _ => false
def InitI.ok (d : InitI) : Bool := plainN d.s && plainN d.p && decide (d.s ≠ d.p) && (match (defScope d.st).kind with | .function => true | _ => false) && !(defScope d.st).isCoroutine && !(defScope d.st).isGenerator &&
  ([d.s, d.p].all fun x => match (defScope d.st).names.lookup x with | some .local => true | some .cell => true | _ => false) && ((defScope d.st).names.all fun y => decide (y.2 ≠ .free)) && d.body (defBody d.st)
/-- the text is a text, whatever the number is -/
def InitI.txt (d : InitI) : Prop := ∀ (M : Mn) (n : Int), n.natAbs.log2 < 1920 → ∃ r, ev M d.tx [some (.obj 0 []), some (.int n)] = .ok r
theorem txt_cst {b s p f : Str} {z : Str} {st : Stmt} : InitI.txt ⟨b, s, p, f, .cst (.str z), st⟩ := fun M n _ => ⟨_, rfl⟩
theorem txt_fs {b s p f : Str} {x y : Str} {st : Stmt} (hx : x.length ≤ 1000) (hy : y.length ≤ 1000) : InitI.txt ⟨b, s, p, f, .fs (.cons (.cst (.str x)) (.cons (.fmt (.var 1)) (.cons (.cst (.str y)) .nil))), st⟩ := fun M n hn => by
  have h1 : (toString n).length ≤ 1921 := PySem.int_text_length_le (by decide) hn
  have hz : (Str.ofString (toString n)).length ≤ 1921 := by rw [PySem.ofString_length]; exact h1
  have hl : 4000 ≤ sizeLine := by rw [sizeLine_eq]; decide
  have l0 : Str.empty.length = 0 := rfl
  have a1 : (Str.empty ++ x).length ≤ sizeLine := by rw [PySem.strLen_append, l0]; omega
  have a2 : ((Str.empty ++ x) ++ Str.ofString (toString n)).length ≤ sizeLine := by rw [PySem.strLen_append, PySem.strLen_append, l0]; omega
  have a3 : (((Str.empty ++ x) ++ Str.ofString (toString n)) ++ y).length ≤ sizeLine := by rw [PySem.strLen_append, PySem.strLen_append, PySem.strLen_append, l0]; omega
  refine ⟨.str (((Str.empty ++ x) ++ Str.ofString (toString n)) ++ y), ?_⟩
  have e1 : fmtD (.int n) = .ok (.str (Str.ofString (toString n))) := if_pos hn
  have e2 : evs M (.cons (.cst (.str x)) (.cons (.fmt (.var 1)) (.cons (.cst (.str y)) .nil))) [some (.obj 0 []), some (.int n)] = .ok [.str x, .str (Str.ofString (toString n)), .str y] := by
    show (Rs.ok (D.str x) >>= fun a => (fmtD (.int n) >>= fun b => Rs.ok [b, D.str y]) >>= fun r => Rs.ok (a :: r)) = _
    rw [e1]; rfl
  have e3 : jnS [.str x, .str (Str.ofString (toString n)), .str y] Str.empty = some (((Str.empty ++ x) ++ Str.ofString (toString n)) ++ y) := by
    simp only [jnS, if_pos a1, if_pos a2, if_pos a3]
  show (evs M (.cons (.cst (.str x)) (.cons (.fmt (.var 1)) (.cons (.cst (.str y)) .nil))) [some (.obj 0 []), some (.int n)] >>= fun ds => match jnS ds Str.empty with
    | some s => Rs.ok (D.str s)
    | none => .st) = _
  rw [e2, Rs.ok_bind, e3]
section
variable {P : Program} {w : World} {K : PySem.W.Frag} {mg : Str → Option Value} {base : Heap} {G : Wd}
/-- what such a def promises -/
def spI (K : PySem.W.Frag) (f : Str) : Sp := fun vs H Q _ => ∃ (a C : Addr) (n : Int), vs = [.ref a, .int n] ∧ n.natAbs.log2 < 1920 ∧ OexC K C ∧ PySem.W.findIn K (.ref C) f = some none ∧ H a = some (exo a C none) ∧
  ∀ H1 dx, Same H H1 → H1 dx = none → dx ≠ a → Q .non (upd (upd H1 dx (exd dx [(f, .int n)])) a (exo a C (some dx)))
theorem bodyI {d : InitI} {ss : List Stmt} (h : d.body ss = true) : ∃ p1 p2 p3 p4 p5 p6 p7 p8 ps s e s2 p, ss = [.Expr (.Call (.Attribute (.Name d.base p1) "__init__" p2) [.Name s ps, e] [] p3) p6, .Assign [.Attribute (.Name s2 p4) d.f p7] (.Name p p5) p8] ∧
    glb (defScope d.st) d.base = true ∧ plainN d.base = true ∧ (p2.endLine == p3.line) = true ∧ chkE d.cn (defScope d.st) [] (.var 0) (.Name s ps) = true ∧ chkE d.cn (defScope d.st) [] d.tx e = true ∧ nb d.cn [] d.tx = true ∧ noStar e = true ∧
    chkE d.cn (defScope d.st) [] (.var 0) (.Name s2 p4) = true ∧ chkE d.cn (defScope d.st) [] (.var 1) (.Name p p5) = true := by
  unfold InitI.body at h
  split at h
  · simp only [Bool.and_eq_true, decide_eq_true_eq] at h
    obtain ⟨⟨⟨⟨⟨⟨⟨⟨⟨⟨⟨rfl, rfl⟩, h1⟩, h2⟩, h3⟩, h4⟩, h5⟩, h6⟩, h7⟩, rfl⟩, h8⟩, h9⟩ := h
    exact ⟨_, _, _, _, _, _, _, _, _, _, _, _, _, rfl, h1, h2, h3, h4, h5, h6, h7, h8, h9⟩
  · cases h
theorem init_ok (eK : G.K = K) (ew : G.w = w) {d : InitI} (hd : d.ok = true) (tx : d.txt) {B f : Addr} {fd : FuncData} {qual : Str} (hB : mg d.base = some (.ref B)) (b : BaseE K B) (F : FunD K "__init__" qual (defArgs d.st) (defBody d.st) (defScope d.st) [] [] f fd) :
    FnOk P w K mg base (L2N.CX P w) 1 f fd [d.s, d.p] (spI K d.f) := by
  simp only [InitI.ok, Bool.and_eq_true, decide_eq_true_eq, Bool.not_eq_true', List.all_eq_true (l := (defScope d.st).names)] at hd
  obtain ⟨⟨⟨⟨⟨⟨⟨⟨h1, h2⟩, h3⟩, h4⟩, h5⟩, h6⟩, h7⟩, h8⟩, h9⟩ := hd
  obtain ⟨p1, p2, p3, p4, p5, p6, p7, p8, ps, s0, e, s2, p, eb, g1, g2, g3, g4, g5, g6, g7, g8, g9⟩ := bodyI h9
  have hk : (defScope d.st).kind = .function := by
    split at h4
    · assumption
    · cases h4
  have hp : ∀ x ∈ [d.s, d.p], (defScope d.st).names.lookup x = some .local ∨ (defScope d.st).names.lookup x = some .cell := fun x hx => by
    have q := List.all_eq_true.mp h7 x hx
    split at q
    · exact .inl (by assumption)
    · exact .inr (by assumption)
    · cases q
  have nd : [d.s, d.p].Nodup := by simp [h3]
  have sc : FnScope [d.s, d.p] [d.s, d.p] (defScope d.st) := ⟨hk, h5, h6, nd, rfl, hp, h8⟩
  obtain ⟨oc, od, dV, kV, doc, pm, an, cdv, ct, osl, rfl, lk, hcd, _, _⟩ := F.ex
  refine fn_of lk hcd sc (fun vs H Q E ⟨a, C, n, e, _⟩ => by rw [e]; rfl) fun A outer s H vs Q E hr hsp => ?_
  obtain ⟨a, C, n, rfl, hn, T, nf, ea, q⟩ := hsp
  rw [eb]
  let X := cxOf (L2N.CX P w) P w K mg base [d.s, d.p] qual (defScope d.st) f cdv A outer s H E
  have o : Ok X ⟨G, none⟩ ⟨fun _ _ => .st, fun _ => .non, 0⟩ d.cn :=
    ⟨eK, ew, rfl, nd, by simp [InitI.cn, h1, h2], (fun _ => rfl), .inl ⟨rfl, rfl, rfl⟩, by have h := hr.un; show (A.deeper (envOfC qual (defScope d.st) s.heap.objs.size f cdv)).units + 65 < cLine; omega, (fun _ _ _ z => nomatch z), (fun _ _ _ z => nomatch z),
      (fun _ _ _ z => nomatch z), (fun _ _ z => nomatch z), (fun _ _ _ z => nomatch z), (fun _ _ z => nomatch z), (fun _ z => nomatch z), (fun _ _ z => nomatch z), (fun _ _ z => nomatch z), (fun _ _ _ z => nomatch z), (fun _ _ z => nomatch z), (fun _ _ z => nomatch z)⟩
  have b1 : PE X (.Call (.Attribute (.Name d.base p1) "__init__" p2) [.Name s0 ps, e] [] p3) _ := pe_binit (glb_of g1) hB (plainN_of g2).1 b (pa_cons (pe_slot (S := []) o g4) (pa_cons (sndE d.tx o g5).pe pa_nil (starEach_cons g7)) (starEach_cons rfl)) (by rw [List.all_cons, List.all_cons, g7]; rfl) (by simp) g3
  have b2 : PS X (.Assign [.Attribute (.Name s2 p4) d.f p7] (.Name p p5) p8) _ := ps_ost (pe_slot (S := []) o g8) (pe_slot (S := []) o g9)
  refine ⟨_, pss_cons (ps_expr b1 rfl) (pss_cons b2 pss_nil), ?_⟩
  have e0 : (L2.start [d.s, d.p] [V.ref a, V.int n]) = [some (.ref a), some (.int n)] := rfl
  have j : J ⟨G, none⟩ [] ⟨fun _ => False, fun _ _ => False, none⟩ H (L2.start [d.s, d.p] [V.ref a, V.int n]) H [some (.obj 0 []), some (.int n)] := by
    rw [e0]
    refine ⟨rfl, fun i e _ he => ?_, (fun i hi => nomatch hi), (fun i _ hi => nomatch hi), (fun a z => z.elim), (fun b u z => ⟨z, fun ⟨i, hi, _⟩ => nomatch hi⟩), (fun p z => nomatch z), fun b z => nomatch z⟩
    match i, he with
    | 0, he => cases he; exact ⟨_, rfl, .obj⟩
    | 1, he => cases he; exact ⟨_, rfl, .int _⟩
    | i + 2, he => simp at he
  obtain ⟨r, er⟩ := tx ⟨fun _ _ => .st, fun _ => .non, 0⟩ n hn
  refine ⟨.ref a, rfl, _, H, _, r, j, er, fun v1 H1 s1 _ => ?_⟩
  refine ⟨a, C, [v1], rfl, by simp, T, s1 _ _ ea, .int n, rfl, .ref a, rfl, a, C, rfl, T, nf, .inl ⟨s1 _ _ ea, fun dx hx ne => q H1 dx s1 hx ne⟩⟩
end
end PV
namespace PV
open PySem PySem.Spec PyProof.Rows L2

/-- a def stands in K at f, without defaults -/
structure DefF (K : PySem.W.Frag) (nm : Str) (st : Stmt) (f : Addr) : Prop where
  a : PySem.W.nsIn K mainGlobals nm = some (some (.ref f))
  kp : PySem.W.keepIn K (.ref f) = true
  ex : ∃ (oc : Value) (od : Option Addr) (kV doc pm : Value) (an : Option Addr) (cdv ct : Value) (osl : Array (Option Value)),
    K.lookup f = some ⟨oc, od, .func (PySem.W.fnOf nm nm (defArgs st) (defBody st) (defScope st) .none kV doc pm an cdv ct), osl⟩ ∧ PySem.W.codeIn K cdv nm = true
theorem defF {K : PySem.W.Frag} {nm : Str} {st : Stmt} {f : Addr} {oc : Value} {od : Option Addr} {kV doc pm : Value} {an : Option Addr} {cdv ct : Value} {osl : Array (Option Value)}
    (a : PySem.W.nsIn K mainGlobals nm = some (some (.ref f)))
    (l : K.lookup f = some ⟨oc, od, .func (PySem.W.fnOf nm nm (defArgs st) (defBody st) (defScope st) .none kV doc pm an cdv ct), osl⟩)
    (c : PySem.W.codeIn K cdv nm = true) (k : PySem.W.keepIn K (.ref f) = true) : ∃ f, DefF K nm st f := ⟨f, a, k, oc, od, kV, doc, pm, an, cdv, ct, osl, l, c⟩
/-- a def with defaults: the tuple's items are its -/
structure DefG (K : PySem.W.Frag) (nm : Str) (st : Stmt) (f : Addr) (its : List V) : Prop where
  a : PySem.W.nsIn K mainGlobals nm = some (some (.ref f))
  kp : PySem.W.keepIn K (.ref f) = true
  ex : ∃ (oc : Value) (od : Option Addr) (T : Addr) (kV doc pm : Value) (an : Option Addr) (cdv ct : Value) (osl : Array (Option Value)) (o : Obj) (vs : List Value) (n : Nat),
    K.lookup f = some ⟨oc, od, .func (PySem.W.fnOf nm nm (defArgs st) (defBody st) (defScope st) (.ref T) kV doc pm an cdv ct), osl⟩ ∧ PySem.W.codeIn K cdv nm = true ∧ K.lookup T = some o ∧ o.data = .seq vs.toArray n ∧ Vals its vs
theorem defG {K : PySem.W.Frag} {nm : Str} {st : Stmt} {f : Addr} {its : List V} {oc : Value} {od : Option Addr} {T : Addr} {kV doc pm : Value} {an : Option Addr} {cdv ct : Value} {osl : Array (Option Value)} {o : Obj} {vs : List Value} {n : Nat}
    (a : PySem.W.nsIn K mainGlobals nm = some (some (.ref f)))
    (l : K.lookup f = some ⟨oc, od, .func (PySem.W.fnOf nm nm (defArgs st) (defBody st) (defScope st) (.ref T) kV doc pm an cdv ct), osl⟩)
    (c : PySem.W.codeIn K cdv nm = true) (k : PySem.W.keepIn K (.ref f) = true) (lT : K.lookup T = some o) (oT : o.data = .seq vs.toArray n) (r : Vals its vs) : ∃ f, DefG K nm st f its := ⟨f, a, k, oc, od, T, kV, doc, pm, an, cdv, ct, osl, o, vs, n, l, c, lT, oT, r⟩
/-- a method of a class, without defaults -/
structure DefM (K : PySem.W.Frag) (nm qual : Str) (st : Stmt) (f : Addr) : Prop where
  kp : PySem.W.keepIn K (.ref f) = true
  fn : PySem.W.isFn K (.ref f) = true
  ex : ∃ (oc : Value) (od : Option Addr) (kV doc pm : Value) (an : Option Addr) (cdv ct : Value) (osl : Array (Option Value)),
    K.lookup f = some ⟨oc, od, .func (PySem.W.fnOf nm qual (defArgs st) (defBody st) (defScope st) .none kV doc pm an cdv ct), osl⟩ ∧ PySem.W.codeIn K cdv qual = true
theorem defM {K : PySem.W.Frag} {nm qual : Str} {st : Stmt} {f : Addr} {oc : Value} {od : Option Addr} {kV doc pm : Value} {an : Option Addr} {cdv ct : Value} {osl : Array (Option Value)}
    (l : K.lookup f = some ⟨oc, od, .func (PySem.W.fnOf nm qual (defArgs st) (defBody st) (defScope st) .none kV doc pm an cdv ct), osl⟩)
    (c : PySem.W.codeIn K cdv qual = true) (k : PySem.W.keepIn K (.ref f) = true) (g : PySem.W.isFn K (.ref f) = true) : DefM K nm qual st f := ⟨k, g, oc, od, kV, doc, pm, an, cdv, ct, osl, l, c⟩
/-- a class: where it stands, what it is -/
structure ClsF (K : PySem.W.Frag) (x : Str) (C : Addr) : Prop where
  a : PySem.W.nsIn K mainGlobals x = some (some (.ref C))
  mko : MkO K C
theorem clsF {K : PySem.W.Frag} {x : Str} {C : Addr} (a : PySem.W.nsIn K mainGlobals x = some (some (.ref C))) (b1 : PySem.W.makesIn K C = true) (b2 : PySem.W.findIn K (.ref C) "__init__" = some (some (.builtin "object.__init__")))
    (b3 : PySem.W.keepIn K (.ref C) = true) (b4 : PySem.W.plainGet K C Str.empty = true) (b5 : PySem.W.hasDictIn K C = true) (b6 : PySem.W.plainOver K C = true) (b7 : PySem.W.findIn K (.ref C) "__setattr__" = some (some (.builtin "object.__setattr__")))
    (b8 : PySem.W.findIn K (.ref C) "__class__" = some (some (.builtin "object.__class__"))) (b9 : PySem.W.specialIn K (.builtin "object.__class__") "__get__" = some (some (.builtin "getset_descriptor.__get__"))) (b10 : PySem.W.takesIn K (.builtin "object.__class__") = some true)
    (b11 : PySem.W.mroIn K C (.type "object") = some true) : ClsF K x C := ⟨a, ⟨b1, b2, b3, ⟨b4, b5, b6, b7⟩, b8, b9, b10, b11⟩⟩
theorem kitOwn {K : PySem.W.Frag} {C D : Addr} {b : Bool} (h1 : PySem.W.isClsIn K D = true) (h2 : PySem.W.typeIn K (.ref D) = some (.type "type")) (h3 : PySem.W.subIn K (.ref C) (.ref D) = some b) (h4 : C = D → b = true) : PySem.W.kitOne K (.ref C) (.ref D) = some b := by
  unfold PySem.W.kitOne
  split
  · rename_i e
    have e' : (Value.ref C) = .ref D := beq_iff_eq.mp e
    rw [h4 (by cases e'; rfl)]
  · have h1' : (PySem.W.clsIn K D).isSome = true := h1
    show (if ((PySem.W.clsIn K D).isSome && PySem.W.typeIn K (.ref D) == some (.type "type")) = true then PySem.W.subIn K (.ref C) (.ref D) else none) = some b
    rw [h1', h2]
    simp only [beq_self_eq_true, Bool.and_self, if_true]
    exact h3
def clAt (l : List Addr) (i : Nat) : Addr := l.getD i 0
/-- plain classes by their numbers, exceptions from 100 on -/
def clX (a b : List Addr) (i : Nat) : Addr := bif Nat.blt i 100 then a.getD i 0 else b.getD (i - 100) 0
def xnX (l : List (Option Str)) (i : Nat) : Option Str := bif Nat.blt i 100 then none else (l.getD (i - 100) none)
section
variable {K : PySem.W.Frag} {mg : Str → Option Value} {h : Heap}
theorem DefM.fun {nm qual : Str} {st : Stmt} {f : Addr} (F : DefM K nm qual st f) : ∃ fd, FunD K nm qual (defArgs st) (defBody st) (defScope st) [] [] f fd := by
  obtain ⟨oc, od, kV, doc, pm, an, cdv, ct, osl, l, c⟩ := F.ex
  exact ⟨_, ⟨oc, od, .none, kV, doc, pm, an, cdv, ct, osl, rfl, l, c, .inl ⟨rfl, rfl⟩, .inl rfl⟩, F.kp⟩
theorem DefF.fun {nm : Str} {st : Stmt} {f : Addr} (F : DefF K nm st f) : ∃ fd, FunD K nm nm (defArgs st) (defBody st) (defScope st) [] [] f fd := by
  obtain ⟨oc, od, kV, doc, pm, an, cdv, ct, osl, l, c⟩ := F.ex
  exact ⟨_, ⟨oc, od, .none, kV, doc, pm, an, cdv, ct, osl, rfl, l, c, .inl ⟨rfl, rfl⟩, .inl rfl⟩, F.kp⟩
theorem DefG.fun {nm : Str} {st : Stmt} {f : Addr} {its : List V} (hn : its ≠ []) (F : DefG K nm st f its) : ∃ fd, FunD K nm nm (defArgs st) (defBody st) (defScope st) its [] f fd := by
  obtain ⟨oc, od, T, kV, doc, pm, an, cdv, ct, osl, o, vs, n, l, c, lT, oT, r⟩ := F.ex
  exact ⟨_, ⟨oc, od, .ref T, kV, doc, pm, an, cdv, ct, osl, rfl, l, c, .inr ⟨hn, T, o, vs, n, rfl, lT, oT, r⟩, .inl rfl⟩, F.kp⟩
/-- what a call binds, all written -/
def BindN (nm : Str) (st : Stmt) (ps : List Str) : Prop := ∀ (kV doc pm : Value) (an : Option Addr) (cdv ct : Value) (us : List Value), us.length = ps.length → bindArgs (PySem.W.fnOf nm nm (defArgs st) (defBody st) (defScope st) .none kV doc pm an cdv ct) ⟨us, []⟩ = pure (ps.zip us)
/-- of a def with m defaults n are written -/
def BindD (nm : Str) (st : Stmt) (ps : List Str) (n j m : Nat) : Prop := ∀ (T : Addr) (kV doc pm : Value) (an : Option Addr) (cdv ct : Value) (us its : List Value), us.length = n → its.length = m →
      ∃ k, bindArgs (PySem.W.fnOf nm nm (defArgs st) (defBody st) (defScope st) (.ref T) kV doc pm an cdv ct) ⟨us, []⟩ = seqItems? (.ref T) >>= k ∧ k (some its.toArray) = pure (ps.zip (us ++ its.drop j))
def BindQ (nm qual : Str) (st : Stmt) (ps : List Str) : Prop := ∀ (kV doc pm : Value) (an : Option Addr) (cdv ct : Value) (us : List Value), us.length = ps.length → bindArgs (PySem.W.fnOf nm qual (defArgs st) (defBody st) (defScope st) .none kV doc pm an cdv ct) ⟨us, []⟩ = pure (ps.zip us)
def EntP (K : PySem.W.Frag) (mg : Str → Option Value) (G : Wd) (ci : CI) (f : Nat) (e : Ent) : Prop := ∃ (a : Addr) (fd : FuncData) (nm qual : Str) (dvf : List V) (dvs : List V) (dsv : List Value), (isG e.d.nm = true → mg e.d.nm = some (.ref a)) ∧ (∀ k m, (k, m, f) ∈ ci.ms → Cls K (G.cl k) ∧ Meth K (G.cl k) m a) ∧ PySem.W.keepIn K (.ref a) = true ∧
    FunD K nm qual (defArgs e.d.st) (defBody e.d.st) (defScope e.d.st) dvf [] a fd ∧ L2.Binds K fd e.d.ps dsv ∧ Vals dvs dsv ∧ (∀ O H, Reps G O H dvs e.dv)
def noM (ci : CI) (f : Nat) : Bool := ci.ms.all fun x => decide (x.2.2 ≠ f)
theorem noM_of {ci : CI} {f : Nat} (h : noM ci f = true) {k : Nat} {m : Str} (z : (k, m, f) ∈ ci.ms) : False := of_decide_eq_true (List.all_eq_true.mp h _ z) rfl
theorem ent0 {G : Wd} {ci : CI} (X : K.In h) (N : h.Ns mainGlobals mg) {nm : Str} {st : Stmt} {ps : List Str} {d : DefI} {i : Nat} (F : ∃ f, DefF K nm st f) (hb : BindN nm st ps) (e1 : d.nm = nm) (e2 : d.st = st) (e3 : d.ps = ps) (hm : noM ci i = true) : EntP K mg G ci i ⟨d, []⟩ := by
  subst e1 e2 e3
  obtain ⟨f, F⟩ := F
  obtain ⟨fd, D⟩ := F.fun
  exact ⟨f, fd, d.nm, d.nm, [], [], [], fun _ => PySem.W.mg_of X N F.a, fun k m z => (noM_of hm z).elim, F.kp, D, D.bindsN hb, .nil, fun _ _ => .nil⟩
theorem entM {G : Wd} {ci : CI} {nm qual : Str} {st : Stmt} {ps : List Str} {d : DefI} {i : Nat} {f : Addr} (F : DefM K nm qual st f) (hb : BindQ nm qual st ps) (e1 : isG d.nm = false) (e2 : d.st = st) (e3 : d.ps = ps)
    (hm : ∀ k m, (k, m, i) ∈ ci.ms → Cls K (G.cl k) ∧ PySem.W.findIn K (.ref (G.cl k)) m = some (some (.ref f))) : EntP K mg G ci i ⟨d, []⟩ := by
  subst e2 e3
  obtain ⟨fd, D⟩ := F.fun
  exact ⟨f, fd, nm, qual, [], [], [], fun z => (by rw [e1] at z; cases z), fun k m z => ⟨(hm k m z).1, (hm k m z).2, F.fn, F.kp⟩, F.kp, D, D.bindsN hb, .nil, fun _ _ => .nil⟩
theorem entD {G : Wd} {ci : CI} (X : K.In h) (N : h.Ns mainGlobals mg) {nm : Str} {st : Stmt} {ps : List Str} {d : DefI} {its : List V} {dv : List D} {i : Nat} (F : ∃ f, DefG K nm st f its) (n j : Nat) (hb : BindD nm st ps n j its.length) (hn : its ≠ []) (hl : n + (its.length - j) = ps.length)
    (e1 : d.nm = nm) (e2 : d.st = st) (e3 : d.ps = ps) (hr : ∀ O H, Reps G O H (its.drop j) dv) (hm : noM ci i = true) : EntP K mg G ci i ⟨d, dv⟩ := by
  subst e1 e2 e3
  obtain ⟨f, F⟩ := F
  obtain ⟨fd, D⟩ := F.fun hn
  obtain ⟨ds, r, b⟩ := D.binds1 n j hn hl hb
  exact ⟨f, fd, d.nm, d.nm, its, its.drop j, ds, fun _ => PySem.W.mg_of X N F.a, fun k m z => (noM_of hm z).elim, F.kp, D, b, r, hr⟩
def AllQ (p : Nat × Str × Nat → Prop) : List (Nat × Str × Nat) → Prop
  | [] => True
  | x :: l => p x ∧ AllQ p l
theorem AllQ.nil {p : Nat × Str × Nat → Prop} : AllQ p [] := trivial
theorem AllQ.cons {p : Nat × Str × Nat → Prop} {x : Nat × Str × Nat} {l : List (Nat × Str × Nat)} (h : p x) (r : AllQ p l) : AllQ p (x :: l) := ⟨h, r⟩
theorem AllQ.get {p : Nat × Str × Nat → Prop} : ∀ {l : List (Nat × Str × Nat)}, AllQ p l → ∀ x ∈ l, p x
  | y :: l, h, x, hx => by
    rcases List.mem_cons.mp hx with e | e
    · subst e; exact h.1
    · exact AllQ.get h.2 x e
theorem ms_at {ms : List (Nat × Str × Nat)} {cl fa : Nat → Addr} (i : Nat) (h : AllQ (fun x => Cls K (cl x.1) ∧ PySem.W.findIn K (.ref (cl x.1)) x.2.1 = some (some (.ref (fa x.2.2)))) ms) : ∀ k m, (k, m, i) ∈ ms → Cls K (cl k) ∧ PySem.W.findIn K (.ref (cl k)) m = some (some (.ref (fa i))) := fun k m z => h.get _ z
/-- by numbers -/
def AllI (p : Nat → Ent → Prop) : Nat → List Ent → Prop
  | _, [] => True
  | i, e :: l => p i e ∧ AllI p (i + 1) l
theorem AllI.nil {p : Nat → Ent → Prop} {i : Nat} : AllI p i [] := trivial
theorem AllI.cons {p : Nat → Ent → Prop} {i : Nat} {e : Ent} {l : List Ent} (h : p i e) (r : AllI p (i + 1) l) : AllI p i (e :: l) := ⟨h, r⟩
theorem AllI.get {p : Nat → Ent → Prop} : ∀ {l : List Ent} {i : Nat}, AllI p i l → ∀ (f : Nat) (e : Ent), l[f]? = some e → p (i + f) e
  | _ :: _, i, h, 0, _, q => by cases q; exact h.1
  | _ :: _, i, h, f + 1, e, q => by have := h.2.get f e q; rwa [Nat.add_right_comm] at this
/-- the classes, the answers of isinstance -/
def AllC (K : PySem.W.Frag) (G : Wd) : Nat → List Str → Prop
  | _, [] => True
  | i, x :: l => ClsF K x (G.cl i) ∧ AllC K G (i + 1) l
theorem AllC.nil {G : Wd} {i : Nat} : AllC K G i [] := trivial
theorem AllC.cons {G : Wd} {i : Nat} {x : Str} {l : List Str} (h : ClsF K x (G.cl i)) (r : AllC K G (i + 1) l) : AllC K G i (x :: l) := ⟨h, r⟩
theorem AllC.get {G : Wd} : ∀ {l : List Str} {i : Nat}, AllC K G i l → ∀ (c : Nat) (x : Str), l[c]? = some x → ClsF K x (G.cl (i + c))
  | _ :: _, i, h, 0, x, q => by cases q; exact h.1
  | _ :: _, i, h, c + 1, x, q => by have := h.2.get c x q; rwa [Nat.add_right_comm] at this
def AllS (K : PySem.W.Frag) (G : Wd) : List (Nat × Nat × Bool) → Prop
  | [] => True
  | x :: l => PySem.W.kitOne K (.ref (G.cl x.1)) (.ref (G.cl x.2.1)) = some x.2.2 ∧ AllS K G l
theorem AllS.nil {G : Wd} : AllS K G [] := trivial
theorem AllS.cons {G : Wd} {x : Nat × Nat × Bool} {l : List (Nat × Nat × Bool)} (h : PySem.W.kitOne K (.ref (G.cl x.1)) (.ref (G.cl x.2.1)) = some x.2.2) (r : AllS K G l) : AllS K G (x :: l) := ⟨h, r⟩
theorem AllS.get {G : Wd} : ∀ {l : List (Nat × Nat × Bool)}, AllS K G l → ∀ x ∈ l, PySem.W.kitOne K (.ref (G.cl x.1)) (.ref (G.cl x.2.1)) = some x.2.2
  | y :: l, h, x, hx => by
    rcases List.mem_cons.mp hx with e | e
    · subst e; exact h.1
    · exact AllS.get h.2 x e
def AllE (p : Ent → Prop) : List Ent → Prop
  | [] => True
  | e :: l => p e ∧ AllE p l
theorem AllE.nil {p : Ent → Prop} : AllE p [] := trivial
theorem AllE.cons {p : Ent → Prop} {e : Ent} {l : List Ent} (h : p e) (r : AllE p l) : AllE p (e :: l) := ⟨h, r⟩
theorem AllE.get {p : Ent → Prop} : ∀ {l : List Ent}, AllE p l → ∀ (f : Nat) (e : Ent), l[f]? = some e → p e
  | _ :: _, h, 0, _, q => by cases q; exact h.1
  | _ :: _, h, f + 1, e, q => h.2.get f e q
/-- the constants: their name, what stands there, as data -/
def GloP (K : PySem.W.Frag) (G : Wd) (x : Str) (d : D) : Prop := ∃ v u, PySem.W.nsIn K mainGlobals x = some (some u) ∧ RelV v u ∧ ∀ O H, Rep G O H v d
def AllG (K : PySem.W.Frag) (G : Wd) (gv : Nat → D) : Nat → List Str → Prop
  | _, [] => True
  | i, x :: l => GloP K G x (gv i) ∧ AllG K G gv (i + 1) l
theorem AllG.nil {G : Wd} {gv : Nat → D} {i : Nat} : AllG K G gv i [] := trivial
theorem AllG.cons {G : Wd} {gv : Nat → D} {i : Nat} {x : Str} {l : List Str} (h : GloP K G x (gv i)) (r : AllG K G gv (i + 1) l) : AllG K G gv i (x :: l) := ⟨h, r⟩
theorem AllG.get {G : Wd} {gv : Nat → D} : ∀ {l : List Str} {i : Nat}, AllG K G gv i l → ∀ (g : Nat) (x : Str), l[g]? = some x → GloP K G x (gv (i + g))
  | _ :: _, i, h, 0, x, q => by cases q; exact h.1
  | _ :: _, i, h, g + 1, x, q => by have := h.2.get g x q; rwa [Nat.add_right_comm] at this
def AllB (K : PySem.W.Frag) : List Str → Prop
  | [] => True
  | x :: l => PySem.W.nsIn K mainGlobals x = some none ∧ AllB K l
theorem AllB.nil : AllB K [] := trivial
theorem AllB.cons {x : Str} {l : List Str} (h : PySem.W.nsIn K mainGlobals x = some none) (r : AllB K l) : AllB K (x :: l) := ⟨h, r⟩
theorem AllB.get : ∀ {l : List Str}, AllB K l → ∀ x ∈ l, PySem.W.nsIn K mainGlobals x = some none
  | y :: l, h, x, hx => by
    rcases List.mem_cons.mp hx with e | e
    · subst e; exact h.1
    · exact AllB.get h.2 x e
def msOk (ci : CI) (tab : List Ent) : Bool := (ci.ms.all fun x => decide (x.2.2 < tab.length) && (match tab[x.2.2]? with | some e => !isChg e.d.ret | none => false)) && tab.all fun e => !isChg e.d.ret || isG e.d.nm
/-- the classes as a world -/
def wd (K : PySem.W.Frag) (w : World) (cl : Nat → Addr) (xn : Nat → Option Str := fun _ => none) : Wd := { K := K, w := w, cl := cl, xn := xn }
/-- an exception's class stands in K, whose __init__ keeps one number -/
def InitN (K : PySem.W.Frag) (G : Wd) (i : Nat) (x : Str) : Prop :=
  ∃ (d : InitI) (fI B : Addr) (fd : FuncData) (qual : Str), G.xn i = some d.f ∧ PySem.W.nsIn K mainGlobals x = some (some (.ref (G.cl i))) ∧ OexC K (G.cl i) ∧ PySem.W.findIn K (.ref (G.cl i)) "__init__" = some (some (.ref fI)) ∧ PySem.W.typeIn K (.ref fI) = some (.type "function") ∧
    PySem.W.findIn K (.ref (G.cl i)) d.f = some none ∧ PySem.W.nsIn K mainGlobals d.base = some (some (.ref B)) ∧ BaseE K B ∧ FunD K "__init__" qual (defArgs d.st) (defBody d.st) (defScope d.st) [] [] fI fd ∧ d.ok = true ∧ d.txt ∧ BindQ "__init__" qual d.st [d.s, d.p]
/-- what is told of exceptions -/
structure XcA (K : PySem.W.Frag) (G : Wd) (ci : CI) : Prop where
  xt : ∀ x j, (x, some j) ∈ ci.xt → PySem.W.nsIn K mainGlobals x = some (some (.ref (G.cl j)))
  xq : ∀ i j b, (i, j, b) ∈ ci.xq → XcF K (G.cl i) ∧ PySem.W.kitOne K (.ref (G.cl i)) (tgV G.cl j) = some b ∧ PySem.W.exmOne K (.ref (G.cl i)) (tgV G.cl j) = some b
  xr : ∀ i x, (i, x) ∈ ci.xr → InitN K G i x
  xf : ∀ i f, (i, f) ∈ ci.xf → XcF K (G.cl i) ∧ PySem.W.findIn K (.ref (G.cl i)) f = some none ∧ G.xn i = some f
/-- by lists -/
def AllP {α : Type} (p : α → Prop) : List α → Prop
  | [] => True
  | x :: l => p x ∧ AllP p l
theorem AllP.nil {α : Type} {p : α → Prop} : AllP p [] := trivial
theorem AllP.cons {α : Type} {p : α → Prop} {x : α} {l : List α} (h : p x) (r : AllP p l) : AllP p (x :: l) := ⟨h, r⟩
theorem AllP.get {α : Type} {p : α → Prop} : ∀ {l : List α}, AllP p l → ∀ x ∈ l, p x
  | y :: l, h, x, hx => by
    rcases List.mem_cons.mp hx with e | e
    · subst e; exact h.1
    · exact AllP.get h.2 x e
theorem xcA_of {G : Wd} {ci : CI} (h1 : AllP (fun p : Str × Option Nat => ∀ j, p.2 = some j → PySem.W.nsIn K mainGlobals p.1 = some (some (.ref (G.cl j)))) ci.xt) (h2 : AllP (fun p : Nat × Option Nat × Bool => XcF K (G.cl p.1) ∧ PySem.W.kitOne K (.ref (G.cl p.1)) (tgV G.cl p.2.1) = some p.2.2 ∧ PySem.W.exmOne K (.ref (G.cl p.1)) (tgV G.cl p.2.1) = some p.2.2) ci.xq)
    (h3 : AllP (fun p : Nat × Str => InitN K G p.1 p.2) ci.xr) (h4 : AllP (fun p : Nat × Str => XcF K (G.cl p.1) ∧ PySem.W.findIn K (.ref (G.cl p.1)) p.2 = some none ∧ G.xn p.1 = some p.2) ci.xf) : XcA K G ci :=
  ⟨fun x j z => h1.get _ z j rfl, fun i j b z => h2.get _ z, fun i x z => h3.get _ z, fun i f z => h4.get _ z⟩
theorem pg_mk {tab : List Ent} {gl bl : List Str} {ci : CI} {gv : Nat → D} (G : Wd) (X : K.In h) (N : h.Ns mainGlobals mg) (eK : G.K = K) (hE : AllI (EntP K mg G ci) 0 tab) (hG : AllG K G gv 0 gl) (hB : AllB K bl) (hC : AllC K G 0 ci.cs) (hS : AllS K G ci.ia)
    (hm : msOk ci tab = true) (hi : (ci.ia.all fun x => decide (x.1 < ci.cs.length)) = true) (hX : XcA K G ci) (hH : chkHs tab gl bl ci = true) : Pg K mg G tab gl bl ci gv := by
  simp only [msOk, Bool.and_eq_true] at hm
  obtain ⟨hm, hF⟩ := hm
  have cg : ∀ i x, ci.cs[i]? = some x → ClsF K x (G.cl i) := fun i x q => by have := hC.get i x q; rwa [Nat.zero_add] at this
  refine ⟨eK, fun f e q => by have := hE.get f e q; rwa [Nat.zero_add] at this, fun k m f z => ?_, fun k m f z e q => ?_, fun f e q hr => ?_, fun i x q => ⟨PySem.W.mg_of X N (cg i x q).a, (cg i x q).mko⟩, fun i k b z => ⟨?_, hS.get _ z⟩, fun g x q => ?_, fun x hx => PySem.W.mg_none_of X N (hB.get x hx), fun x j z => PySem.W.mg_of X N (hX.xt x j z), hX.xq, fun i x z => ?_, hX.xf, hH⟩
  · have := List.all_eq_true.mp hm _ z
    simp only [Bool.and_eq_true, decide_eq_true_eq] at this
    exact this.1
  · have := List.all_eq_true.mp hm _ z
    simp only [Bool.and_eq_true, q] at this
    simpa using this.2
  · have := List.all_eq_true.mp hF e (List.mem_of_getElem? q)
    rw [hr] at this
    exact this
  · have hl : i < ci.cs.length := of_decide_eq_true (List.all_eq_true.mp hi _ z)
    exact (cg i _ (List.getElem?_eq_getElem hl)).mko
  · obtain ⟨v, u, a, r, p⟩ := hG.get g x q
    rw [Nat.zero_add] at p
    exact ⟨v, u, PySem.W.mg_of X N a, r, p⟩
  · obtain ⟨d, fI, B, fd, qual, a1, a2, a3, a4, a5, a6, a7, a8, a9, b1, b2, b3⟩ := hX.xr i x z
    exact ⟨d.f, fI, fd, [d.s, d.p], spI K d.f, a1, PySem.W.mg_of X N a2, a3, a4, a5, fun P base _ _ => init_ok eK rfl b1 b2 (PySem.W.mg_of X N a7) a8 a9, a9.bindsN b3, fun a n H Q E hn ea q => ⟨a, _, n, rfl, hn, a3, a6, ea, q⟩⟩
theorem dOk_tab {tab : List Ent} {gl bl : List Str} {ci : CI} (h : (tab.all fun e => chkD tab gl bl ci e.d) = true) (f : Nat) (e : Ent) (q : tab[f]? = some e) : DOk tab gl bl ci e.d := dOk_of (List.all_eq_true.mp h e (List.mem_of_getElem? q))
/-- all of it: the law's def keeps its promise -/
theorem fin_ok {l : PySem.W.OpenLaw} {w : World} {fa : Addr} {tab : List Ent} {gl bl : List Str} {ci : CI} {gv : Nat → D} {d : DefI} {x : Str} (G : Wd) (eK : G.K = K) (ew : G.w = w) (X : K.In h) (N : h.Ns mainGlobals mg) (hfa : mg "law" = some (.ref fa))
    (hE : AllI (EntP K mg G ci) 0 tab) (hG : AllG K G gv 0 gl) (hB : AllB K bl) (hC : AllC K G 0 ci.cs) (hS : AllS K G ci.ia) (hm : msOk ci tab = true) (hi : (ci.ia.all fun x => decide (x.1 < ci.cs.length)) = true) (hX : XcA K G ci) (hH : chkHs tab gl bl ci = true)
    (hL : ∃ f, DefF K "law" d.st f) (ck : (tab.all fun e => chkD tab gl bl ci e.d) = true) (cl : chkD tab gl bl ci d = true) (hd : isChg d.ret = false) (en : d.nm = "law") (ep : d.ps = [x])
    (hb : BindN "law" d.st [x]) (wf k : Nat) (holds : ∀ ns : List Int, ns.length ≤ 63 → runD (Mk tab gv wf k) d.N.length d.body [.lst (ns.map D.int)] = .ok (.bl true)) :
    ∃ fd : FuncData, (∀ (s : Shared) (u : Value), BindsTo s fd ⟨[u], []⟩ [(x, u)]) ∧ ∀ base : Heap, K.In base → base.Ns mainGlobals mg → FnOk l.prog w K mg base (L2N.CX l.prog w) (k + 3) fa fd [x] (spLaw K) := by
  obtain ⟨f, F⟩ := hL
  have e := hfa.symm.trans (PySem.W.mg_of X N F.a)
  cases e
  obtain ⟨fd, D⟩ := F.fun
  refine ⟨fd, fun s u => D.bindsA hb s [u] rfl, fun base kb nb => ?_⟩
  have r := law_ok (P := l.prog) (w := w) (base := base) (k := k) ew (pg_mk G X N eK hE hG hB hC hS hm hi hX hH) (dOk_tab ck) (dOk_of cl) kb nb hd (by rw [ep]; rfl) D holds
  rw [ep] at r
  exact r
theorem walk_law {l : PySem.W.OpenLaw} {q : Program} {loose : List Str} {XP : (Str → Option Value) → Heap → Prop} {YP : World → Heap → Prop} {d : DefRec} {K : Params → PySem.W.Frag} {x : Str} (k : Nat) (hr : Room (k + 3) callerA) (hn : l.most = some 63) (hdf : d.params.defaults = [])
    (hY : ∀ (w : World) (h : Heap), YP w h → (K w.params).In h)
    (F : ∀ (w : World) (mg : Str → Option Value) (fa : Addr) (h : Heap), (K w.params).In h → h.Ns mainGlobals mg → mg d.name = some (.ref fa) →
      ∃ fd : FuncData, (∀ (s : Shared) (u : Value), BindsTo s fd ⟨[u], []⟩ [(x, u)]) ∧ ∀ base : Heap, (K w.params).In base → base.Ns mainGlobals mg → FnOk l.prog w (K w.params) mg base (L2N.CX l.prog w) (k + 3) fa fd [x] (spLaw (K w.params))) :
    PySem.W.WalkO q loose XP YP l.row.toRowW d [] (fun f vs => PySem.call f vs) :=
  L2.walk_of (n := 63) (k := k + 3) (x := x) (CX := fun w => L2N.CX l.prog w) (sp := fun w => spLaw (K w.params)) hn (by decide) hdf hr hY F (fun _ _ a ns hl hO hS => ⟨a, ns, rfl, hS, hO, hl, fun _ => rfl⟩) fun _ _ _ _ _ ⟨_, _, _, _, _, _, _, _, _, _, _, _, z⟩ => z.elim
end
end PV
namespace PV
open PySem PySem.Spec PyProof.Rows L2

/-! ### tools of the plain laws: the evaluator by equations that simp takes -/
def onB {α : Type} (d : D) (t f : Rs α) : Rs α := match d with
  | .bl true => t
  | .bl false => f
  | _ => .st
@[simp] theorem onB_bl {α : Type} (p : Bool) (t f : Rs α) : onB (.bl p) t f = if p = true then t else f := by cases p <;> rfl
def onI {α : Type} (d : D) (t : Int → Rs α) : Rs α := match d with
  | .int i => t i
  | _ => .st
@[simp] theorem onI_int {α : Type} (i : Int) (t : Int → Rs α) : onI (.int i) t = t i := (rfl)
def onII {α : Type} (d e : D) (t : Int → Int → Rs α) : Rs α := match d, e with
  | .int i, .int j => t i j
  | _, _ => .st
@[simp] theorem onII_int {α : Type} (i j : Int) (t : Int → Int → Rs α) : onII (.int i) (.int j) t = t i j := (rfl)
/-- what follows a piece of a block -/
def onF (f : Fl) (n : Env → Rs Fl) : Rs Fl := match f with
  | .nx δ => n δ
  | f => .ok f
@[simp] theorem onF_nx (δ : Env) (n : Env → Rs Fl) : onF (.nx δ) n = n δ := (rfl)
@[simp] theorem onF_rt (d : D) (n : Env → Rs Fl) : onF (.rt d) n = .ok (.rt d) := (rfl)
@[simp] theorem onF_bk (δ : Env) (n : Env → Rs Fl) : onF (.bk δ) n = .ok (.bk δ) := (rfl)
@[simp] theorem onF_ct (δ : Env) (n : Env → Rs Fl) : onF (.ct δ) n = .ok (.ct δ) := (rfl)
/-- what a turn of a loop does -/
def onL (f : Fl) (n : Env → Rs Fl) : Rs Fl := match f with
  | .nx δ => n δ
  | .ct δ => n δ
  | .bk δ => .ok (.nx δ)
  | .rt d => .ok (.rt d)
  | .er c n δ => .ok (.er c n δ)
@[simp] theorem onL_nx (δ : Env) (n : Env → Rs Fl) : onL (.nx δ) n = n δ := (rfl)
@[simp] theorem onL_rt (d : D) (n : Env → Rs Fl) : onL (.rt d) n = .ok (.rt d) := (rfl)
@[simp] theorem onL_bk (δ : Env) (n : Env → Rs Fl) : onL (.bk δ) n = .ok (.nx δ) := (rfl)
@[simp] theorem onL_er (c : Nat) (m : Int) (δ : Env) (n : Env → Rs Fl) : onL (.er c m δ) n = .ok (.er c m δ) := (rfl)
@[simp] theorem onL_ct (δ : Env) (n : Env → Rs Fl) : onL (.ct δ) n = n δ := (rfl)
/-- what a def hands back -/
@[simp] theorem nE_ok (f : Fl) : nE (.ok f) = .ok f := (rfl)
@[simp] theorem nE_st : nE .st = .st := (rfl)
/-- a call's result, where an exception is none of ours -/
def nR : Rs D → Rs D
  | .er _ _ => .st
  | x => x
@[simp] theorem nR_ok (d : D) : nR (.ok d) = .ok d := (rfl)
@[simp] theorem nR_st : nR .st = .st := (rfl)
@[simp] theorem onR_er (c : Nat) (n : Int) (δ : Env) : onR (.er c n δ) = .er c n := (rfl)
@[simp] theorem onF_er (c : Nat) (n : Int) (δ : Env) (k : Env → Rs Fl) : onF (.er c n δ) k = .ok (.er c n δ) := (rfl)
@[simp] theorem onR_nx (δ : Env) : onR (.nx δ) = .ok .non := (rfl)
@[simp] theorem onR_rt (d : D) : onR (.rt d) = .ok d := (rfl)
@[simp] theorem Rs.ite_bind {α β : Type} {p : Prop} [Decidable p] (a b : Rs α) (f : α → Rs β) : ((if p then a else b) >>= f) = if p then a >>= f else b >>= f := by split <;> rfl
@[simp] theorem Rs.bind_bind {α β γ : Type} (a : Rs α) (f : α → Rs β) (g : β → Rs γ) : ((a >>= f) >>= g) = (a >>= fun x => f x >>= g) := by cases a <;> rfl

theorem vget_lt (δ : Env) (i : Nat) : vget δ i = match δ[i]? with | some (some d) => .ok d | _ => .st := rfl
@[simp] theorem vget_0 (d : D) (δ : Env) : vget (some d :: δ) 0 = .ok d := (rfl)
@[simp] theorem vget_s (d : Option D) (δ : Env) (i : Nat) : vget (d :: δ) (i + 1) = vget δ i := (rfl)

section
variable (M : Mn) (δ : Env)
@[simp] theorem ev_var (i : Nat) : ev M (.var i) δ = vget δ i := (rfl)
@[simp] theorem ev_int (i : Int) : ev M (.cst (.int i)) δ = .ok (.int i) := (rfl)
@[simp] theorem ev_str (i : Str) : ev M (.cst (.str i)) δ = .ok (.str i) := (rfl)
@[simp] theorem ev_bl (i : Bool) : ev M (.cst (.bl i)) δ = .ok (.bl i) := (rfl)
@[simp] theorem ev_non : ev M (.cst .non) δ = .ok .non := (rfl)
@[simp] theorem ev_glob (g : Nat) : ev M (.glob g) δ = .ok (M.gl g) := (rfl)
@[simp] theorem ev_bin (o : Bop) (a b : Ex) : ev M (.bin o a b) δ = (ev M a δ >>= fun x => ev M b δ >>= fun y => dBin o x y) := (rfl)
@[simp] theorem ev_neg (a : Ex) : ev M (.neg a) δ = (ev M a δ >>= fun x => onI x fun i => .ok (.int (-i))) := (rfl)
@[simp] theorem ev_not (a : Ex) : ev M (.not a) δ = (ev M a δ >>= fun x => onB x (.ok (.bl false)) (.ok (.bl true))) := by
  simp only [ev]
  congr 1; funext x
  cases x <;> first | rfl | (rename_i b; cases b <;> rfl)
@[simp] theorem ev_and (a b : Ex) : ev M (.and a b) δ = (ev M a δ >>= fun x => onB x (ev M b δ) (.ok (.bl false))) := (rfl)
@[simp] theorem ev_or (a b : Ex) : ev M (.or a b) δ = (ev M a δ >>= fun x => onB x (.ok (.bl true)) (ev M b δ)) := (rfl)
@[simp] theorem ev_cmp (o : Cop) (a b : Ex) : ev M (.cmp o a b) δ = (ev M a δ >>= fun x => ev M b δ >>= fun y => dCmp o x y) := (rfl)
@[simp] theorem ev_chain (o o' : Cop) (a b c : Ex) : ev M (.chain o o' a b c) δ = (ev M a δ >>= fun x => ev M b δ >>= fun y => dCmp o x y >>= fun r => onB r (ev M c δ >>= fun z => dCmp o' y z) (.ok (.bl false))) := (rfl)
@[simp] theorem ev_ite (c a b : Ex) : ev M (.ite c a b) δ = (ev M c δ >>= fun x => onB x (ev M a δ) (ev M b δ)) := (rfl)
@[simp] theorem ev_tup (es : Exs) : ev M (.tup es) δ = (evs M es δ >>= fun ds => if ds.length ≤ sizeLine then .ok (.tup ds) else .st) := (rfl)
@[simp] theorem ev_lst (es : Exs) : ev M (.lst es) δ = (evs M es δ >>= fun ds => if ds.length ≤ sizeLine then .ok (.lst ds) else .st) := (rfl)
@[simp] theorem ev_ix (a b : Ex) : ev M (.ix a b) δ = (ev M a δ >>= fun x => ev M b δ >>= fun y => dIx x y) := (rfl)
@[simp] theorem ev_sl (a : Ex) (lo hi : Ox) : ev M (.sl a lo hi) δ = (ev M a δ >>= fun x => evo M lo δ >>= fun l => evo M hi δ >>= fun h => dSl x l h) := (rfl)
@[simp] theorem ev_cal (f : Nat) (es : Exs) : ev M (.cal .any f es) δ = (evs M es δ >>= fun ds => M.F f ds) := by
  simp only [ev, Fk.ok]
  congr 1; funext ds
  cases M.F f ds <;> rfl
theorem ev_calF (fl : Fk) (f : Nat) (es : Exs) : ev M (.cal fl f es) δ = (evs M es δ >>= fun ds => M.F f ds >>= fun r => if fl.ok r then .ok r else .st) := rfl
@[simp] theorem ev_bi (b : Bi) (es : Exs) : ev M (.bi b es) δ = (evs M es δ >>= fun ds => dBi b ds) := (rfl)
@[simp] theorem ev_isi (a : Ex) (t : Ty) : ev M (.isi a t) δ = (ev M a δ >>= fun x => tyIs x t >>= fun b => .ok (.bl b)) := (rfl)
@[simp] theorem ev_inr (n : Bool) (x a : Ex) : ev M (.inr n x a) δ = (ev M x δ >>= fun x => ev M a δ >>= fun y => onII x y fun i j => .ok (.bl (if n = true then !decide (0 ≤ i ∧ i < j) else decide (0 ≤ i ∧ i < j)))) := (rfl)
@[simp] theorem ev_rgA (t : Bool) (a : Ex) : ev M (.rgA t a) δ = (ev M a δ >>= fun x => onI x fun j => if (okI j && decide (j.toNat ≤ 16777216)) = true then .ok (if t = true then .tup (iota 0 j.toNat) else .lst (iota 0 j.toNat)) else .st) := (rfl)
@[simp] theorem ev_rgB (t : Bool) (a b : Ex) : ev M (.rgB t a b) δ = (ev M a δ >>= fun x => ev M b δ >>= fun y => onII x y fun i j => if (okI i && okI j && decide ((j - i).toNat ≤ 16777216)) = true then .ok (if t = true then .tup (iota i (j - i).toNat) else .lst (iota i (j - i).toNat)) else .st) := (rfl)
@[simp] theorem ev_dsp (ks : List Cst) (es : Exs) : ev M (.dsp ks es) δ = (evs M es δ >>= fun ds => if ds.length = ks.length ∧ ks.all (fun k => isK k.d) = true then .ok (.dct false (((ks.map Cst.d).zip ds).foldl (fun kvs p => dPut kvs p.1 p.2) [])) else .st) := (rfl)
@[simp] theorem ev_stp (a k : Ex) : ev M (.stp a k) δ = (ev M a δ >>= fun x => ev M k δ >>= fun y => match x, y with | .lst xs, .int i => if i = -1 then .ok (.lst xs.reverse) else .st | _, _ => .st) := (rfl)
def onG (x y z : D) : Rs D := match x with
  | .dct t kvs => if okK t y then .ok ((dFind kvs y).getD z) else .st
  | _ => .st
@[simp] theorem onG_dct (t : Bool) (kvs : List (D × D)) (y z : D) : onG (.dct t kvs) y z = if okK t y then .ok ((dFind kvs y).getD z) else .st := (rfl)
@[simp] theorem ev_gtd (a k d : Ex) : ev M (.gtd a k d) δ = (ev M a δ >>= fun x => ev M k δ >>= fun y => ev M d δ >>= fun z => onG x y z) := (rfl)
@[simp] theorem tbl_nil {α : Type} (i : Nat) : tbl ([] : List (Nat × α)) i = none := (rfl)
@[simp] theorem tbl_cons {α : Type} (k i : Nat) (v : α) (r : List (Nat × α)) : tbl ((k, v) :: r) i = if k = i then some v else tbl r i := (rfl)
def onTx (x y : D) : Rs D := match x, y with
  | .gtp xs, .str z => match (dStrs xs).bind (sIdx z) with
    | some j => .ok (.int j)
    | none => .st
  | _, _ => .st
theorem onTx_some {xs : List D} {z : Str} {j : Nat} (h : (dStrs xs).bind (sIdx z) = some j) : onTx (.gtp xs) (.str z) = .ok (.int j) := by
  show (match (dStrs xs).bind (sIdx z) with | some j => Rs.ok (D.int j) | none => .st) = _
  rw [h]
def onSp (x y : D) : Rs D := match x, y with
    | .str a, .str b => if (b.length == 0) = false ∧ a.length + 2 ≤ sizeLine then .ok (.lst ((Txt.split a b).map D.str)) else .st
    | _, _ => .st
@[simp] theorem onSp_s (a b : Str) : onSp (.str a) (.str b) = if (b.length == 0) = false ∧ a.length + 2 ≤ sizeLine then .ok (.lst ((Txt.split a b).map D.str)) else .st := (rfl)
@[simp] theorem ev_spt (a e : Ex) : ev M (.spt a e) δ = (ev M a δ >>= fun x => ev M e δ >>= fun y => onSp x y) := (rfl)
def onSw (x y : D) : Rs D := match x, y with
    | .str a, .str b => .ok (.bl (Txt.startswith a b))
    | _, _ => .st
@[simp] theorem onSw_s (a b : Str) : onSw (.str a) (.str b) = .ok (.bl (Txt.startswith a b)) := (rfl)
@[simp] theorem ev_sw (a e : Ex) : ev M (.sw a e) δ = (ev M a δ >>= fun x => ev M e δ >>= fun y => onSw x y) := (rfl)
def onJn (x y : D) : Rs D := match x, y with
    | .str a, .lst xs => jnD a xs
    | .str a, .tup xs => jnD a xs
    | _, _ => .st
@[simp] theorem onJn_l (a : Str) (xs : List D) : onJn (.str a) (.lst xs) = jnD a xs := (rfl)
@[simp] theorem onJn_t (a : Str) (xs : List D) : onJn (.str a) (.tup xs) = jnD a xs := (rfl)
@[simp] theorem ev_jn (a e : Ex) : ev M (.jn a e) δ = (ev M a δ >>= fun x => ev M e δ >>= fun y => onJn x y) := (rfl)
@[simp] theorem ev_fmt (a : Ex) : ev M (.fmt a) δ = (ev M a δ >>= fun x => fmtD x) := (rfl)
def onFs (ds : List D) : Rs D := match jnS ds Str.empty with
    | some s => .ok (.str s)
    | none => .st
@[simp] theorem ev_fs (es : Exs) : ev M (.fs es) δ = (evs M es δ >>= fun ds => onFs ds) := (rfl)
@[simp] theorem ev_tix (a x : Ex) : ev M (.tix a x) δ = (ev M a δ >>= fun x' => ev M x δ >>= fun y => onTx x' y) := (rfl)
@[simp] theorem ev_mk (k : Nat) : ev M (.mk k) δ = .ok (.ins k) := (rfl)
def onMt (F : Nat → List D → Rs D) (tb : List (Nat × Nat)) (x : D) (ds : List D) : Rs D := match x with
  | .ins c => match tbl tb c with
    | some f => F f (x :: ds)
    | none => .st
  | _ => .st
def onMf (F : Nat → List D → Rs D) (f : Option Nat) (ds : List D) : Rs D := match f with
  | some f => F f ds
  | none => .st
@[simp] theorem onMf_some (F : Nat → List D → Rs D) (f : Nat) (ds : List D) : onMf F (some f) ds = F f ds := (rfl)
@[simp] theorem onMt_ins (F : Nat → List D → Rs D) (tb : List (Nat × Nat)) (c : Nat) (ds : List D) : onMt F tb (.ins c) ds = onMf F (tbl tb c) (.ins c :: ds) := (rfl)
@[simp] theorem ev_mth (a : Ex) (tb : List (Nat × Nat)) (m : Str) (es : Exs) : ev M (.mth a tb m es) δ = (ev M a δ >>= fun x => evs M es δ >>= fun ds => onMt M.F tb x ds) := (rfl)
def onIs (tb : List (Nat × Bool)) (x : D) : Rs D := match x with
  | .ins c => match tbl tb c with
    | some b => .ok (.bl b)
    | none => .st
  | _ => .st
def onIb (b : Option Bool) : Rs D := match b with
  | some b => .ok (.bl b)
  | none => .st
@[simp] theorem onIb_some (b : Bool) : onIb (some b) = .ok (.bl b) := (rfl)
@[simp] theorem onIs_ins (tb : List (Nat × Bool)) (c : Nat) : onIs tb (.ins c) = onIb (tbl tb c) := (rfl)
@[simp] theorem ev_isc (a : Ex) (k : Nat) (tb : List (Nat × Bool)) : ev M (.isc a k tb) δ = (ev M a δ >>= fun x => onIs tb x) := (rfl)
@[simp] theorem ev_dspT (k e : Ex) : ev M (.dspT k e) δ = (ev M k δ >>= fun x => ev M e δ >>= fun y => if isKT x = true then .ok (.dct true [(x, y)]) else .st) := (rfl)
def onSD (x : D) : Rs D := match x with
    | .dct true kvs => if kvs.length ≤ sizeLine then srtD kvs else .st
    | _ => .st
@[simp] theorem onSD_dct (kvs : List (D × D)) : onSD (.dct true kvs) = if kvs.length ≤ sizeLine then srtD kvs else .st := (rfl)
@[simp] theorem ev_srtD (a : Ex) : ev M (.srtD a) δ = (ev M a δ >>= fun x => onSD x) := (rfl)
def onNi (x y : D) : Rs D := match x, y with
    | .nst xs, .int j => match atI xs j with | some d => .ok d | none => .st
    | _, _ => .st
@[simp] theorem ev_nls (tg : Tg) (s : Sr) : ev M (.nls tg s) δ = (evr M s δ >>= fun xs => compL tg (fun _ => .ok (.bl true)) (fun _ => .ok (.lst [])) xs (wipeD δ tg.slots) >>= fun ys => if ys.length ≤ sizeLine then .ok (.nst ys) else .st) := (rfl)
@[simp] theorem ev_nix (a k : Ex) : ev M (.nix a k) δ = (ev M a δ >>= fun x => ev M k δ >>= fun y => onNi x y) := (rfl)
@[simp] theorem ev_dnw (t : Bool) : ev M (.dnw t) δ = .ok (.dct t []) := (rfl)
@[simp] theorem ev_gt1 (a k : Ex) : ev M (.gt1 a k) δ = (ev M a δ >>= fun x => ev M k δ >>= fun y => onG x y .non) := (rfl)
def onV (x : D) : Rs D := match x with
  | .dct _ kvs => if kvs.length ≤ sizeLine then .ok (.lst (kvs.map (·.2))) else .st
  | _ => .st
@[simp] theorem onV_dct (t : Bool) (kvs : List (D × D)) : onV (.dct t kvs) = if kvs.length ≤ sizeLine then .ok (.lst (kvs.map (·.2))) else .st := (rfl)
@[simp] theorem ev_dvl (a : Ex) : ev M (.dvl a) δ = (ev M a δ >>= fun x => onV x) := (rfl)
@[simp] theorem ev_rpl (es : Exs) (a : Ex) : ev M (.rpl es a) δ = (evs M es δ >>= fun ds => ev M a δ >>= fun x => onI x fun k => if (okI k && decide (ds.length ≤ sizeLine) && decide (ds.length * k.toNat ≤ sizeLine)) = true then .ok (.lst (List.replicate k.toNat ds).flatten) else .st) := (rfl)
@[simp] theorem ev_lc (tg : Tg) (s : Sr) (c : Ox) (e : Ex) : ev M (.lc tg s c e) δ = (evr M s δ >>= fun xs => compL tg (evc M c) (ev M e) xs (wipeD δ tg.slots) >>= fun ys => if ys.length ≤ sizeLine then .ok (.lst ys) else .st) := (rfl)
def onVl (f : List D → Rs (List D)) (x : D) : Rs D := match x with
  | .ndc ds => f (ds.map (·.2)) >>= fun ys => if ys.length ≤ sizeLine ∧ ys.all tupD = true then .ok (.lst ys) else .st
  | _ => .st
@[simp] theorem onVl_ndc (f : List D → Rs (List D)) (ds : List (D × D)) : onVl f (.ndc ds) = (f (ds.map (·.2)) >>= fun ys => if ys.length ≤ sizeLine ∧ ys.all tupD = true then .ok (.lst ys) else .st) := (rfl)
@[simp] theorem ev_vlc (i : Nat) (tg : Tg) (e : Ex) : ev M (.vlc i tg e) δ = (vget δ i >>= fun x => onVl (fun xs => compL tg (fun _ => .ok (.bl true)) (ev M e) xs (wipeD (δ.map fun _ => none) tg.slots)) x) := (rfl)
@[simp] theorem evs_nil : evs M .nil δ = .ok [] := (rfl)
@[simp] theorem evs_cons (e : Ex) (es : Exs) : evs M (.cons e es) δ = (ev M e δ >>= fun x => evs M es δ >>= fun r => .ok (x :: r)) := (rfl)
@[simp] theorem evo_no : evo M .no δ = .ok none := (rfl)
@[simp] theorem evo_yes (e : Ex) : evo M (.yes e) δ = (ev M e δ >>= fun x => onI x fun i => .ok (some i)) := (rfl)
@[simp] theorem evc_no : evc M .no δ = .ok (.bl true) := (rfl)
@[simp] theorem evc_yes (e : Ex) : evc M (.yes e) δ = ev M e δ := (rfl)
@[simp] theorem evr_val (e : Ex) : evr M (.val e) δ = (ev M e δ >>= fun x => items x) := (rfl)
@[simp] theorem evr_rng1 (a : Ex) : evr M (.rng1 a) δ = (ev M a δ >>= fun x => onI x fun j => if okI j then .ok (iota 0 j.toNat) else .st) := (rfl)
@[simp] theorem evr_rng2 (a b : Ex) : evr M (.rng2 a b) δ = (ev M a δ >>= fun x => ev M b δ >>= fun y => onII x y fun i j => if okI i && okI j then .ok (iota i (j - i).toNat) else .st) := (rfl)
@[simp] theorem evr_rng3 (a b : Ex) (c : Int) : evr M (.rng3 a b c) δ = (ev M a δ >>= fun x => ev M b δ >>= fun y => onII x y fun i j => if (decide (c ≠ 0) && decide (c.natAbs < 1073741824) && Builtin.Range.small i j c) = true then .ok (iotaC i c (Builtin.Range.rangeSize i j c).toNat) else .st) := (rfl)
def onE (x : D) : Rs (List D) := match x with
    | .lst xs => .ok ((iota 0 xs.length).zipWith (fun i d => D.tup [i, d]) xs)
    | .tup xs => .ok ((iota 0 xs.length).zipWith (fun i d => D.tup [i, d]) xs)
    | _ => .st
@[simp] theorem onE_lst (xs : List D) : onE (.lst xs) = .ok ((iota 0 xs.length).zipWith (fun i d => D.tup [i, d]) xs) := (rfl)
@[simp] theorem onE_tup (xs : List D) : onE (.tup xs) = .ok ((iota 0 xs.length).zipWith (fun i d => D.tup [i, d]) xs) := (rfl)
@[simp] theorem evr_enum (a : Ex) : evr M (.enum a) δ = (ev M a δ >>= fun x => onE x) := (rfl)
def onZ (x y : D) : Rs (List D) := match x, y with
    | .lst xs, .lst ys => .ok (xs.zipWith (fun c d => D.tup [c, d]) ys)
    | .tup xs, .tup ys => .ok (xs.zipWith (fun c d => D.tup [c, d]) ys)
    | _, _ => .st
@[simp] theorem onZ_lst (xs ys : List D) : onZ (.lst xs) (.lst ys) = .ok (xs.zipWith (fun c d => D.tup [c, d]) ys) := (rfl)
@[simp] theorem onZ_tup (xs ys : List D) : onZ (.tup xs) (.tup ys) = .ok (xs.zipWith (fun c d => D.tup [c, d]) ys) := (rfl)
@[simp] theorem evr_zip (a b : Ex) : evr M (.zip a b) δ = (ev M a δ >>= fun x => ev M b δ >>= fun y => onZ x y) := (rfl)
@[simp] theorem items_lst (xs : List D) : items (.lst xs) = .ok xs := (rfl)
@[simp] theorem items_tup (xs : List D) : items (.tup xs) = .ok xs := (rfl)
@[simp] theorem exB_nil : exB M .nil δ = .ok (.nx δ) := (rfl)
@[simp] theorem exB_frz (i : Nat) (r : Sts) : exB M (.frz i r) δ = exB M r δ := (rfl)
@[simp] theorem exB_cons (s : St) (r : Sts) : exB M (.cons s r) δ = (exS M s δ >>= fun f => onF f fun δ => exB M r δ) := by
  simp only [exB]
  congr 1
@[simp] theorem exS_set (i : Nat) (e : Ex) : exS M (.set false i e) δ = (ev M e δ >>= fun x => .ok (.nx (δ.set i (some x)))) := by
  simp only [exS, Bool.false_and]
  rfl
@[simp] theorem exS_own (i : Nat) (e : Ex) : exS M (.set true i e) δ = (ev M e δ >>= fun x => if isMut x = true ∧ i < δ.length then .ok (.nx (δ.set i (some x))) else .st) := by
  simp only [exS, Bool.true_and]
  congr 1; funext x
  by_cases h1 : isMut x = true <;> by_cases h2 : i < δ.length <;> simp [h1, h2]
@[simp] theorem exS_unp (is : List Nat) (e : Ex) : exS M (.unp is e) δ = (ev M e δ >>= fun x => tset1 (.many is) x δ >>= fun δ' => .ok (.nx δ')) := (rfl)
@[simp] theorem exS_par (i j : Nat) (a b : Ex) : exS M (.par i j a b) δ = (ev M a δ >>= fun x => ev M b δ >>= fun y => .ok (.nx ((δ.set i (some x)).set j (some y)))) := (rfl)
def onS (o k v : D) (i : Nat) (δ : Env) : Rs Fl := match o, k with
    | .lst xs, .int k => match ixN xs.length k with
      | some j => .ok (.nx (δ.set i (some (.lst (xs.set j v)))))
      | none => .st
    | _, _ => .st
@[simp] theorem exS_seti (i : Nat) (k e : Ex) : exS M (.seti i k e) δ = (ev M e δ >>= fun v => vget δ i >>= fun o => ev M k δ >>= fun k => onS o k v i δ) := (rfl)
def onA (o v : D) (i : Nat) (δ : Env) : Rs Fl := match o with
    | .lst xs => if xs.length < sizeLine then .ok (.nx (δ.set i (some (.lst (xs ++ [v]))))) else .st
    | _ => .st
@[simp] theorem onA_lst (xs : List D) (v : D) (i : Nat) : onA (.lst xs) v i δ = if xs.length < sizeLine then .ok (.nx (δ.set i (some (.lst (xs ++ [v]))))) else .st := (rfl)
def onP (o k v : D) (i : Nat) (δ : Env) : Rs Fl := match o with
    | .dct t kvs => if (okK t k && decide (kvs.length < sizeLine)) = true then .ok (.nx (δ.set i (some (.dct t (dPut kvs k v))))) else .st
    | _ => .st
@[simp] theorem onP_dct (t : Bool) (kvs : List (D × D)) (k v : D) (i : Nat) (δ : Env) : onP (.dct t kvs) k v i δ = if (okK t k && decide (kvs.length < sizeLine)) = true then .ok (.nx (δ.set i (some (.dct t (dPut kvs k v))))) else .st := (rfl)
@[simp] theorem exS_puti (i : Nat) (k e : Ex) : exS M (.puti i k e) δ = (ev M e δ >>= fun v => vget δ i >>= fun o => ev M k δ >>= fun k => onP o k v i δ) := (rfl)
def onD (o k v : D) (i : Nat) (δ : Env) : Rs Fl := match o with
    | .dct t kvs => if (okK t k && decide (kvs.length < sizeLine)) = true then .ok (.nx (δ.set i (some (.dct t (dSdf kvs k v))))) else .st
    | _ => .st
@[simp] theorem onD_dct (t : Bool) (kvs : List (D × D)) (k v : D) (i : Nat) (δ : Env) : onD (.dct t kvs) k v i δ = if (okK t k && decide (kvs.length < sizeLine)) = true then .ok (.nx (δ.set i (some (.dct t (dSdf kvs k v))))) else .st := (rfl)
@[simp] theorem exS_sdf (i : Nat) (k e : Ex) : exS M (.sdf i k e) δ = (vget δ i >>= fun o => ev M k δ >>= fun k => ev M e δ >>= fun v => onD o k v i δ) := (rfl)
@[simp] theorem exS_app (i : Nat) (e : Ex) : exS M (.app i e) δ = (vget δ i >>= fun o => ev M e δ >>= fun v => onA o v i δ) := (rfl)
def onAn (o k v : D) (i : Nat) (δ : Env) : Rs Fl := match o, k with
    | .nst ds, .int k => match ixN ds.length k with
      | some m => match ds[m]? with
        | some (.lst xs) => if xs.length < sizeLine then .ok (.nx (δ.set i (some (.nst (ds.set m (.lst (xs ++ [v]))))))) else .st
        | _ => .st
      | none => .st
    | _, _ => .st
@[simp] theorem exS_apn (i : Nat) (k e : Ex) : exS M (.apn i k e) δ = (vget δ i >>= fun o => ev M k δ >>= fun k => ev M e δ >>= fun v => onAn o k v i δ) := (rfl)
@[simp] theorem ev_dnl : ev M .dnl δ = .ok (.ndc []) := (rfl)
@[simp] theorem ev_nln : ev M .nln δ = .ok (.nst []) := (rfl)
def onLx (x y : D) : Rs D := match x with
    | .lst xs => if okN 60 y && xs.all (okN 60) then (match idxD y xs with
      | some j => .ok (.int j)
      | none => .st) else .st
    | _ => .st
@[simp] theorem ev_lix (a e : Ex) : ev M (.lix a e) δ = (ev M a δ >>= fun x => ev M e δ >>= fun y => onLx x y) := (rfl)
def onAl (o v : D) (i : Nat) (δ : Env) : Rs Fl := match o, v with
    | .nst ds, .lst xs => if ds.length < sizeLine then .ok (.nx (δ.set i (some (.nst (ds ++ [.lst xs]))))) else .st
    | _, _ => .st
@[simp] theorem onAl_nst (ds xs : List D) (i : Nat) : onAl (.nst ds) (.lst xs) i δ = if ds.length < sizeLine then .ok (.nx (δ.set i (some (.nst (ds ++ [.lst xs]))))) else .st := (rfl)
@[simp] theorem exS_apl (i : Nat) (e : Ex) : exS M (.apl i e) δ = (vget δ i >>= fun o => ev M e δ >>= fun v => onAl o v i δ) := (rfl)
def onSa (o k v : D) (i : Nat) (δ : Env) : Rs Fl := match o with
    | .ndc kvs => if isKT k && decide (kvs.length < sizeLine) then (match kIdx k kvs with
      | some m => match kvs[m]? with
        | some (k0, .lst xs) => if xs.length < sizeLine then .ok (.nx (δ.set i (some (.ndc (kvs.set m (k0, .lst (xs ++ [v]))))))) else .st
        | _ => .st
      | none => .ok (.nx (δ.set i (some (.ndc (kvs ++ [(k, .lst [v])])))))) else .st
    | _ => .st
@[simp] theorem exS_sda (i : Nat) (k e : Ex) : exS M (.sda i k e) δ = (vget δ i >>= fun o => ev M k δ >>= fun k => ev M e δ >>= fun v => onSa o k v i δ) := (rfl)
theorem onSa_new {kvs : List (D × D)} {k v : D} {i : Nat} {δ : Env} (h : isKT k = true) (l : kvs.length < sizeLine) (e : kIdx k kvs = none) : onSa (.ndc kvs) k v i δ = .ok (.nx (δ.set i (some (.ndc (kvs ++ [(k, .lst [v])]))))) := by
  simp only [onSa, h, decide_eq_true l, Bool.and_self, if_true, e]
theorem onSa_old {kvs : List (D × D)} {k v k0 : D} {xs : List D} {i m : Nat} {δ : Env} (h : isKT k = true) (l : kvs.length < sizeLine) (e : kIdx k kvs = some m) (g : kvs[m]? = some (k0, .lst xs)) (lx : xs.length < sizeLine) : onSa (.ndc kvs) k v i δ = .ok (.nx (δ.set i (some (.ndc (kvs.set m (k0, .lst (xs ++ [v]))))))) := by
  simp only [onSa, h, decide_eq_true l, Bool.and_self, if_true, e, g, if_pos lx]
def onX (o v : D) (i : Nat) (δ : Env) : Rs Fl := match o, v with
    | .lst xs, .lst ys => if xs.length + ys.length ≤ sizeLine then .ok (.nx (δ.set i (some (.lst (xs ++ ys))))) else .st
    | _, _ => .st
@[simp] theorem onX_lst (xs ys : List D) (i : Nat) : onX (.lst xs) (.lst ys) i δ = if xs.length + ys.length ≤ sizeLine then .ok (.nx (δ.set i (some (.lst (xs ++ ys))))) else .st := (rfl)
@[simp] theorem exS_ext (i : Nat) (e : Ex) : exS M (.ext i e) δ = (vget δ i >>= fun o => ev M e δ >>= fun v => onX o v i δ) := (rfl)
@[simp] theorem exS_aug (i : Nat) (o : Bop) (e : Ex) : exS M (.aug i o e) δ = (vget δ i >>= fun x => ev M e δ >>= fun y => onII x y fun x y => dBin o (.int x) (.int y) >>= fun z => .ok (.nx (δ.set i (some z)))) := (rfl)
@[simp] theorem exS_ret (e : Ex) : exS M (.ret e) δ = (ev M e δ >>= fun x => .ok (.rt x)) := (rfl)
@[simp] theorem exS_retN : exS M .retN δ = .ok (.rt .non) := (rfl)
def onSst (x : D) : Rs D := match x with
  | .lst xs => match dInts xs with
    | some ns => if ns.length < 60 then .ok (.lst ((dset ns).map D.int)) else .st
    | none => .st
  | _ => .st
@[simp] theorem ev_sst (a : Ex) : ev M (.sst a) δ = (ev M a δ >>= fun x => onSst x) := (rfl)
theorem onSst_l (xs : List D) (ns : List Int) (h : dInts xs = some ns) (l : ns.length < 60) : onSst (.lst xs) = .ok (.lst ((dset ns).map D.int)) := by
  show (match dInts xs with | some ns => if ns.length < 60 then Rs.ok (D.lst ((dset ns).map D.int)) else .st | none => .st) = _
  rw [h]
  exact if_pos l
def onXf (cs : List Nat) (x : D) : Rs D := match x with
  | .exc c n => if c ∈ cs then .ok (.int n) else .st
  | _ => .st
@[simp] theorem onXf_exc (cs : List Nat) (c : Nat) (n : Int) : onXf cs (.exc c n) = if c ∈ cs then .ok (.int n) else .st := (rfl)
@[simp] theorem ev_xf (a : Ex) (f : Str) (cs : List Nat) : ev M (.xf a f cs) δ = (ev M a δ >>= fun x => onXf cs x) := (rfl)
def onXi (tb : List (Nat × Bool)) (x : D) : Rs D := match x with
  | .exc c _ => match tbl tb c with
    | some b => .ok (.bl b)
    | none => .st
  | _ => .st
@[simp] theorem onXi_exc (tb : List (Nat × Bool)) (c : Nat) (n : Int) : onXi tb (.exc c n) = onIb (tbl tb c) := (rfl)
@[simp] theorem ev_isx (a : Ex) (k : Nat) (tb : List (Nat × Bool)) : ev M (.isx a k tb) δ = (ev M a δ >>= fun x => onXi tb x) := (rfl)
@[simp] theorem exS_rse (c : Nat) (e : Ex) : exS M (.rse c e) δ = (ev M e δ >>= fun x => onI x fun n => if n.natAbs.log2 < 1920 then .ok (.er c n δ) else .st) := (rfl)
def onC (k : Rk) (δ : Env) (r : Rs D) : Rs Fl := match r with
  | .ok d => rkD k δ d
  | .er c n => .ok (.er c n δ)
  | .st => .st
@[simp] theorem onC_ok (k : Rk) (δ : Env) (d : D) : onC k δ (.ok d) = rkD k δ d := (rfl)
@[simp] theorem onC_er (k : Rk) (δ : Env) (c : Nat) (n : Int) : onC k δ (.er c n) = .ok (.er c n δ) := (rfl)
@[simp] theorem rkD_drop (δ : Env) (d : D) : rkD .drop δ d = .ok (.nx δ) := (rfl)
@[simp] theorem rkD_set (i : Nat) (δ : Env) (d : D) : rkD (.set i) δ d = .ok (.nx (δ.set i (some d))) := (rfl)
@[simp] theorem rkD_own (i : Nat) (δ : Env) (d : D) : rkD (.own i) δ d = if (isMutX d && decide (i < δ.length)) = true then .ok (.nx (δ.set i (some d))) else .st := (rfl)
@[simp] theorem rkD_ret (δ : Env) (d : D) : rkD .ret δ d = .ok (.rt d) := (rfl)
@[simp] theorem exS_rcl (k : Rk) (f : Nat) (es : Exs) : exS M (.rcl k f es) δ = (evs M es δ >>= fun ds => onC k δ (M.F f ds)) := (rfl)
def onTr (M : Mn) (h : Hds) (o : Sts) (f : Fl) : Rs Fl := match f with
  | .nx δ => exB M o δ
  | .er c n δ => exH M h c n δ
  | f => .ok f
@[simp] theorem onTr_nx (M : Mn) (h : Hds) (o : Sts) (δ : Env) : onTr M h o (.nx δ) = exB M o δ := (rfl)
@[simp] theorem onTr_er (M : Mn) (h : Hds) (o : Sts) (c : Nat) (n : Int) (δ : Env) : onTr M h o (.er c n δ) = exH M h c n δ := (rfl)
@[simp] theorem onTr_rt (M : Mn) (h : Hds) (o : Sts) (d : D) : onTr M h o (.rt d) = .ok (.rt d) := (rfl)
@[simp] theorem onTr_bk (M : Mn) (h : Hds) (o : Sts) (δ : Env) : onTr M h o (.bk δ) = .ok (.bk δ) := (rfl)
@[simp] theorem onTr_ct (M : Mn) (h : Hds) (o : Sts) (δ : Env) : onTr M h o (.ct δ) = .ok (.ct δ) := (rfl)
@[simp] theorem exS_trx (b : Sts) (h : Hds) (o : Sts) (keep : List Nat) : exS M (.trx b h o keep) δ = (exB M b δ >>= fun f => onTr M h o f) := (rfl)
def onHb (b : Option Bool) (t f : Rs Fl) : Rs Fl := match b with
  | some true => t
  | some false => f
  | none => .st
@[simp] theorem onHb_t (t f : Rs Fl) : onHb (some true) t f = t := (rfl)
@[simp] theorem onHb_f (t f : Rs Fl) : onHb (some false) t f = f := (rfl)
@[simp] theorem exH_cons (k : Nat) (tb : List (Nat × Bool)) (as : Option Nat) (b : Sts) (r : Hds) (c : Nat) (n : Int) : exH M (.cons k tb as b r) c n δ = onHb (tbl tb c) (exB M b (setO δ as (some (.exc c n))) >>= fun f => unAs as f) (exH M r c n δ) := (rfl)
@[simp] theorem unAs_nx (as : Option Nat) (δ : Env) : unAs as (.nx δ) = .ok (.nx (setO δ as none)) := (rfl)
@[simp] theorem unAs_rt (as : Option Nat) (d : D) : unAs as (.rt d) = .ok (.rt d) := (rfl)
@[simp] theorem unAs_bk (as : Option Nat) (δ : Env) : unAs as (.bk δ) = .ok (.bk (setO δ as none)) := (rfl)
@[simp] theorem unAs_ct (as : Option Nat) (δ : Env) : unAs as (.ct δ) = .ok (.ct (setO δ as none)) := (rfl)
@[simp] theorem setO_some (δ : Env) (i : Nat) (d : Option D) : setO δ (some i) d = δ.set i d := (rfl)
@[simp] theorem setO_none (δ : Env) (d : Option D) : setO δ none d = δ := (rfl)
@[simp] theorem exS_iff (c : Ex) (a b : Sts) : exS M (.iff c a b) δ = (ev M c δ >>= fun x => onB x (exB M a δ) (exB M b δ)) := (rfl)
@[simp] theorem exS_for (tg : Tg) (s : Sr) (b : Sts) (kp : List Nat) : exS M (.for tg s b kp) δ = (evr M s δ >>= fun xs => forL tg (exB M b) xs δ) := (rfl)
def onPop (is : List Nat) (i : Nat) (o : D) (δ : Env) : Rs Fl := match o with
    | .lst xs => match xs[xs.length - 1]? with
      | some d => (tset1 (.many is) d (δ.set i (some (.lst xs.dropLast)))) >>= fun δ' => .ok (.nx δ')
      | none => .st
    | _ => .st
@[simp] theorem exS_popu (is : List Nat) (i : Nat) : exS M (.popu is i) δ = (vget δ i >>= fun o => onPop is i o δ) := (rfl)
def onT (f : Fl) (n : Env → Rs Fl) : Rs Fl := match f with
  | .nx δ => n δ
  | .er _ _ _ => .st
  | f => .ok f
@[simp] theorem onT_nx (δ : Env) (n : Env → Rs Fl) : onT (.nx δ) n = n δ := (rfl)
@[simp] theorem onT_rt (d : D) (n : Env → Rs Fl) : onT (.rt d) n = .ok (.rt d) := (rfl)
@[simp] theorem onT_bk (δ : Env) (n : Env → Rs Fl) : onT (.bk δ) n = .ok (.bk δ) := (rfl)
@[simp] theorem onT_ct (δ : Env) (n : Env → Rs Fl) : onT (.ct δ) n = .ok (.ct δ) := (rfl)
@[simp] theorem exS_tri (b o : Sts) : exS M (.tri b o) δ = (exB M b δ >>= fun f => onT f fun δ => exB M o δ) := by
  simp only [exS]
  congr 1
def onP0 (is : List Nat) (i : Nat) (o : D) (δ : Env) : Rs Fl := match o with
    | .lst (d :: xs) => (tset1 (.many is) d (δ.set i (some (.lst xs)))) >>= fun δ' => .ok (.nx δ')
    | _ => .st
@[simp] theorem onP0_lst (is : List Nat) (i : Nat) (d : D) (xs : List D) : onP0 is i (.lst (d :: xs)) δ = ((tset1 (.many is) d (δ.set i (some (.lst xs)))) >>= fun δ' => .ok (.nx δ')) := (rfl)
@[simp] theorem exS_pop0 (is : List Nat) (i : Nat) : exS M (.pop0 is i) δ = (vget δ i >>= fun o => onP0 is i o δ) := by
  simp only [exS]
  congr 1
def onMF (r : D) (k : List D → D → Rs Fl) : Rs Fl := match r with
  | .tup [.lst xs, d1] => k xs d1
  | _ => .st
@[simp] theorem onMF_t (xs : List D) (d1 : D) (k : List D → D → Rs Fl) : onMF (.tup [.lst xs, d1]) k = k xs d1 := (rfl)
@[simp] theorem exS_mfor (tg : Tg) (i f : Nat) (es : Exs) (b : Sts) (kp : List Nat) : exS M (.mfor tg i f es b kp) δ = (evs M es δ >>= fun ds => vget δ i >>= fun d0 => nR (M.F f (d0 :: ds)) >>= fun r => onMF r fun xs d1 => forL tg (exB M b) xs (δ.set i (some d1))) := by
  simp only [exS]
  congr 1; funext ds
  congr 1; funext d0
  cases M.F f (d0 :: ds) with
  | st => rfl
  | er c n => rfl
  | ok r =>
    rw [nR_ok, Rs.ok_bind]
    unfold onMF
    split
    · rename_i e; cases e; rfl
    · rename_i h; split
      · exact (h _ _ rfl).elim
      · rfl
@[simp] theorem exS_retM (j : Nat) : exS M (.retM j) δ = (vget δ j >>= fun x => vget δ 0 >>= fun d0 => .ok (.rt (.tup [x, d0]))) := (rfl)
@[simp] theorem exS_whl (c : Ex) (b : Sts) (kp : List Nat) : exS M (.whl c b kp) δ = whlL (ev M c) (exB M b) M.wf δ := (rfl)
@[simp] theorem exS_brk : exS M .brk δ = .ok (.bk δ) := (rfl)
@[simp] theorem exS_cnt : exS M .cnt δ = .ok (.ct δ) := (rfl)
@[simp] theorem exS_pas : exS M .pas δ = .ok (.nx δ) := (rfl)
@[simp] theorem exS_drop (e : Ex) : exS M (.drop e) δ = (ev M e δ >>= fun _ => .ok (.nx δ)) := (rfl)
theorem runD_eq (n : Nat) (b : Sts) (as : List D) : runD M n b as = (nE (exB M b (as.map some ++ List.replicate (n - as.length) none)) >>= onR) := rfl
end
@[simp] theorem forL_nil (tg : Tg) (b : Env → Rs Fl) (δ : Env) : forL tg b [] δ = .ok (.nx δ) := (rfl)
theorem forL_cons (tg : Tg) (b : Env → Rs Fl) (x : D) (xs : List D) (δ : Env) : forL tg b (x :: xs) δ = (tset1 tg x δ >>= fun δ' => b δ' >>= fun f => onL f fun δ => forL tg b xs δ) := by
  simp only [forL]
  congr 1
@[simp] theorem tset1_one (i : Nat) (d : D) (δ : Env) : tset1 (.one i) d δ = .ok (δ.set i (some d)) := (rfl)
theorem tset1_many (is : List Nat) (ds : List D) (δ : Env) : tset1 (.many is) (.tup ds) δ = if is.length = ds.length then .ok ((is.zip ds).foldl (fun δ p => δ.set p.1 (some p.2)) δ) else .st := rfl
@[simp] theorem tset1_2 (i j : Nat) (c d : D) (δ : Env) : tset1 (.many [i, j]) (.tup [c, d]) δ = .ok ((δ.set i (some c)).set j (some d)) := (rfl)
@[simp] theorem tset1_2l (i j : Nat) (c d : D) (δ : Env) : tset1 (.many [i, j]) (.lst [c, d]) δ = .ok ((δ.set i (some c)).set j (some d)) := (rfl)
@[simp] theorem tset1_3 (i j k : Nat) (c d e : D) (δ : Env) : tset1 (.many [i, j, k]) (.tup [c, d, e]) δ = .ok (((δ.set i (some c)).set j (some d)).set k (some e)) := (rfl)
@[simp] theorem tset1_4 (i j k l : Nat) (c d e f : D) (δ : Env) : tset1 (.many [i, j, k, l]) (.tup [c, d, e, f]) δ = .ok ((((δ.set i (some c)).set j (some d)).set k (some e)).set l (some f)) := (rfl)
@[simp] theorem tset1_5 (i j k l m : Nat) (c d e f g : D) (δ : Env) : tset1 (.many [i, j, k, l, m]) (.tup [c, d, e, f, g]) δ = .ok (((((δ.set i (some c)).set j (some d)).set k (some e)).set l (some f)).set m (some g)) := (rfl)
theorem whlL_s (c : Env → Rs D) (b : Env → Rs Fl) (n : Nat) (δ : Env) : whlL c b (n + 1) δ = (c δ >>= fun t => onB t (b δ >>= fun f => onL f fun δ => whlL c b n δ) (.ok (.nx δ))) := by
  simp only [whlL]
  rfl
@[simp] theorem compL_nil (tg : Tg) (c e : Env → Rs D) (δ : Env) : compL tg c e [] δ = .ok [] := (rfl)
theorem compL_cons (tg : Tg) (c e : Env → Rs D) (x : D) (xs : List D) (δ : Env) : compL tg c e (x :: xs) δ = (tset1 tg x δ >>= fun δ' => c δ' >>= fun b => onB b (e δ' >>= fun y => compL tg c e xs δ >>= fun r => .ok (y :: r)) (compL tg c e xs δ)) := by
  simp only [compL]
  rfl
/-- a comprehension without a condition -/
theorem compL_map {α : Type} {tg : Tg} {c e : Env → Rs D} (en : α → D) (f : α → D) (δ : Env) : ∀ (l : List α), (∀ x ∈ l, ∃ δ', tset1 tg (en x) δ = .ok δ' ∧ c δ' = .ok (.bl true) ∧ e δ' = .ok (f x)) → compL tg c e (l.map en) δ = .ok (l.map f)
  | [], _ => rfl
  | x :: l, h => by
    obtain ⟨δ', h1, h2, h3⟩ := h x (List.mem_cons_self ..)
    have ih := compL_map en f δ l fun y hy => h y (List.mem_cons_of_mem _ hy)
    rw [List.map_cons, compL_cons, h1]
    simp [h2, h3, ih]
/-- with one -/
theorem compL_filter {α : Type} {tg : Tg} {c e : Env → Rs D} (en : α → D) (p : α → Bool) (f : α → D) (δ : Env) : ∀ (l : List α), (∀ x ∈ l, ∃ δ', tset1 tg (en x) δ = .ok δ' ∧ c δ' = .ok (.bl (p x)) ∧ (p x = true → e δ' = .ok (f x))) → compL tg c e (l.map en) δ = .ok ((l.filter p).map f)
  | [], _ => rfl
  | x :: l, h => by
    obtain ⟨δ', h1, h2, h3⟩ := h x (List.mem_cons_self ..)
    have ih := compL_filter en p f δ l fun y hy => h y (List.mem_cons_of_mem _ hy)
    rw [List.map_cons, compL_cons, h1]
    cases q : p x <;> simp [h2, q, ih, List.filter_cons, h3]

/-! ### operations -/
@[simp] theorem bin_add (i j : Int) : dBin .add (.int i) (.int j) = .ok (.int (i + j)) := (rfl)
@[simp] theorem bin_sub (i j : Int) : dBin .sub (.int i) (.int j) = .ok (.int (i - j)) := (rfl)
@[simp] theorem bin_mul (i j : Int) : dBin .mul (.int i) (.int j) = if (-18446744073709551616 < i ∧ i < 18446744073709551616) ∨ (-18446744073709551616 < j ∧ j < 18446744073709551616) then .ok (.int (i * j)) else .st := (rfl)
theorem bin_mulR (i j : Int) (h : (-18446744073709551616 < j ∧ j < 18446744073709551616)) : dBin .mul (.int i) (.int j) = .ok (.int (i * j)) := by rw [bin_mul, if_pos (.inr h)]
theorem bin_mulL (i j : Int) (h : (-18446744073709551616 < i ∧ i < 18446744073709551616)) : dBin .mul (.int i) (.int j) = .ok (.int (i * j)) := by rw [bin_mul, if_pos (.inl h)]
theorem idiv_pos {i j : Int} (h : 0 < j) : idiv i j = i / j := if_pos h
theorem imod_pos {i j : Int} (h : 0 < j) : imod i j = i % j := if_pos h
/-- // by a number written down -/
@[simp] theorem bin_fdivL (i : Int) (n : Nat) (h : 0 < n) (h2 : n < 1073741824) : dBin .fdiv (.int i) (.int (no_index (OfNat.ofNat n))) = .ok (.int (i / OfNat.ofNat n)) := by
  have e : (OfNat.ofNat n : Int) = ((n : Nat) : Int) := rfl
  show (if (OfNat.ofNat n : Int) ≠ 0 ∧ (OfNat.ofNat n : Int).natAbs < 1073741824 then Rs.ok (D.int (idiv i (OfNat.ofNat n))) else .st) = _
  rw [e, idiv_pos (by omega), if_pos ⟨by omega, by omega⟩]
@[simp] theorem bin_modL (i : Int) (n : Nat) (h : 0 < n) : dBin .mod (.int i) (.int (no_index (OfNat.ofNat n))) = .ok (.int (i % OfNat.ofNat n)) := by
  have e : (OfNat.ofNat n : Int) = ((n : Nat) : Int) := rfl
  show (if (OfNat.ofNat n : Int) ≠ 0 then Rs.ok (D.int (imod i (OfNat.ofNat n))) else .st) = _
  rw [e, imod_pos (by omega), if_pos (by omega)]
theorem bin_fdiv (i j : Int) (h : 0 < j) (h2 : j < 1073741824) : dBin .fdiv (.int i) (.int j) = .ok (.int (i / j)) := by
  show (if j ≠ 0 ∧ j.natAbs < 1073741824 then Rs.ok (D.int (idiv i j)) else .st) = _
  rw [if_pos ⟨by omega, by omega⟩, idiv_pos h]
theorem bin_mod (i j : Int) (h : 0 < j) : dBin .mod (.int i) (.int j) = .ok (.int (i % j)) := by
  show (if j ≠ 0 then Rs.ok (D.int (imod i j)) else .st) = _
  rw [if_pos (by omega), imod_pos h]
@[simp] theorem bin_shl (i j : Int) : dBin .shl (.int i) (.int j) = if 0 ≤ j ∧ j ≤ 1000000 ∧ i.natAbs < 2 ^ 64 then .ok (.int (i * 2 ^ j.toNat)) else .st := (rfl)
@[simp] theorem bin_shr (i j : Int) : dBin .shr (.int i) (.int j) = if 0 ≤ j then .ok (.int (i / 2 ^ j.toNat)) else .st := (rfl)
@[simp] theorem bin_pow (i j : Int) : dBin .pow (.int i) (.int j) = if 0 ≤ j ∧ j ≤ 1000000 ∧ i.natAbs < 2 ^ 64 then .ok (.int (i ^ j.toNat)) else .st := (rfl)
@[simp] theorem bin_band (i j : Int) : dBin .band (.int i) (.int j) = .ok (.int (Builtin.bitAnd i j)) := (rfl)
@[simp] theorem bin_bor (i j : Int) : dBin .bor (.int i) (.int j) = .ok (.int (Builtin.bitOr i j)) := (rfl)
@[simp] theorem bin_bxor (i j : Int) : dBin .bxor (.int i) (.int j) = .ok (.int (Builtin.bitXor i j)) := (rfl)
@[simp] theorem bin_lst (xs ys : List D) : dBin .add (.lst xs) (.lst ys) = if xs.length + ys.length ≤ sizeLine then .ok (.lst (xs ++ ys)) else .st := (rfl)
@[simp] theorem bin_tup (xs ys : List D) : dBin .add (.tup xs) (.tup ys) = if xs.length + ys.length ≤ sizeLine then .ok (.tup (xs ++ ys)) else .st := (rfl)
@[simp] theorem bin_str (x y : Str) : dBin .add (.str x) (.str y) = if x.length + y.length ≤ sizeLine then .ok (.str (x ++ y)) else .st := (rfl)
@[simp] theorem eqv_ii (i j : Int) : D.eqv (.int i) (.int j) = decide (i = j) := by simp only [D.eqv]; rfl
@[simp] theorem eqv_bb (i j : Bool) : D.eqv (.bl i) (.bl j) = decide (i = j) := by simp only [D.eqv]; rfl
@[simp] theorem eqv_ss (i j : Str) : D.eqv (.str i) (.str j) = decide (i = j) := by simp only [D.eqv]; rfl
@[simp] theorem cmp_eqi (i j : Int) : dCmp .eq (.int i) (.int j) = .ok (.bl (decide (i = j))) := by
  show Rs.ok (D.bl (D.eqv _ _)) = _
  rw [eqv_ii]
@[simp] theorem cmp_nei (i j : Int) : dCmp .ne (.int i) (.int j) = .ok (.bl (decide (i ≠ j))) := by
  show Rs.ok (D.bl (!D.eqv _ _)) = _
  rw [eqv_ii, decide_not]
@[simp] theorem cmp_eqb (i j : Bool) : dCmp .eq (.bl i) (.bl j) = .ok (.bl (decide (i = j))) := by
  show Rs.ok (D.bl (D.eqv _ _)) = _
  rw [eqv_bb]
@[simp] theorem cmp_neb (i j : Bool) : dCmp .ne (.bl i) (.bl j) = .ok (.bl (decide (i ≠ j))) := by
  show Rs.ok (D.bl (!D.eqv _ _)) = _
  rw [eqv_bb, decide_not]
@[simp] theorem cmp_eqs (i j : Str) : dCmp .eq (.str i) (.str j) = .ok (.bl (decide (i = j))) := (rfl)
@[simp] theorem cmp_nes (i j : Str) : dCmp .ne (.str i) (.str j) = .ok (.bl (decide (i ≠ j))) := by
  show Rs.ok (D.bl (!decide (i = j))) = _
  rw [decide_not]
@[simp] theorem cmp_lt (i j : Int) : dCmp .lt (.int i) (.int j) = .ok (.bl (decide (i < j))) := (rfl)
@[simp] theorem cmp_le (i j : Int) : dCmp .le (.int i) (.int j) = .ok (.bl (decide (i ≤ j))) := (rfl)
@[simp] theorem cmp_gt (i j : Int) : dCmp .gt (.int i) (.int j) = .ok (.bl (decide (j < i))) := (rfl)
@[simp] theorem cmp_ge (i j : Int) : dCmp .ge (.int i) (.int j) = .ok (.bl (decide (j ≤ i))) := (rfl)
@[simp] theorem cmp_isB (a b : Bool) : dCmp .isN (.bl a) (.bl b) = .ok (.bl (decide (a = b))) := (rfl)
@[simp] theorem cmp_notB (a b : Bool) : dCmp .notN (.bl a) (.bl b) = .ok (.bl (!decide (a = b))) := (rfl)
@[simp] theorem bin_rep (xs : List D) (k : Int) : dBin .mul (.tup xs) (.int k) = if 0 ≤ k ∧ k ≤ 1000 ∧ xs.length ≤ 1000 then .ok (.tup (List.replicate k.toNat xs).flatten) else .st := (rfl)
@[simp] theorem cmp_isN (d : D) : dCmp .isN d .non = .ok (.bl (match d with | .non => true | _ => false)) := (rfl)
@[simp] theorem cmp_notN (d : D) : dCmp .notN d .non = .ok (.bl (match d with | .non => false | _ => true)) := (rfl)
@[simp] theorem bi_lenL (xs : List D) : dBi .len [.lst xs] = .ok (.int xs.length) := (rfl)
@[simp] theorem bi_lenT (xs : List D) : dBi .len [.tup xs] = .ok (.int xs.length) := (rfl)
@[simp] theorem bi_abs (i : Int) : dBi .abs [.int i] = .ok (.int (if i < 0 then -i else i)) := (rfl)
@[simp] theorem bi_max (i j : Int) : dBi .max2 [.int i, .int j] = .ok (.int (if j > i then j else i)) := (rfl)
@[simp] theorem bi_min (i j : Int) : dBi .min2 [.int i, .int j] = .ok (.int (if j < i then j else i)) := (rfl)
@[simp] theorem bi_tupL (xs : List D) : dBi .tuple1 [.lst xs] = .ok (.tup xs) := (rfl)
@[simp] theorem bi_tupT (xs : List D) : dBi .tuple1 [.tup xs] = .ok (.tup xs) := (rfl)
@[simp] theorem bi_lstL (xs : List D) : dBi .list1 [.lst xs] = .ok (.lst xs) := (rfl)
@[simp] theorem bi_lstT (xs : List D) : dBi .list1 [.tup xs] = .ok (.lst xs) := (rfl)
@[simp] theorem ty_nt (t : Ty) : tyIs .non t = .ok false := by cases t <;> rfl
@[simp] theorem ty_bi (b : Bool) : tyIs (.bl b) .int = .ok true := (rfl)
@[simp] theorem ty_bb (b : Bool) : tyIs (.bl b) .bool = .ok true := (rfl)
@[simp] theorem ty_bs (b : Bool) : tyIs (.bl b) .str = .ok false := (rfl)
@[simp] theorem ty_bt (b : Bool) : tyIs (.bl b) .tuple = .ok false := (rfl)
@[simp] theorem ty_bl (b : Bool) : tyIs (.bl b) .list = .ok false := (rfl)
@[simp] theorem ty_ii (b : Int) : tyIs (.int b) .int = .ok true := (rfl)
@[simp] theorem ty_ib (b : Int) : tyIs (.int b) .bool = .ok false := (rfl)
@[simp] theorem ty_is (b : Int) : tyIs (.int b) .str = .ok false := (rfl)
@[simp] theorem ty_it (b : Int) : tyIs (.int b) .tuple = .ok false := (rfl)
@[simp] theorem ty_il (b : Int) : tyIs (.int b) .list = .ok false := (rfl)
@[simp] theorem ty_si (b : Str) : tyIs (.str b) .int = .ok false := (rfl)
@[simp] theorem ty_sb (b : Str) : tyIs (.str b) .bool = .ok false := (rfl)
@[simp] theorem ty_ss (b : Str) : tyIs (.str b) .str = .ok true := (rfl)
@[simp] theorem ty_st (b : Str) : tyIs (.str b) .tuple = .ok false := (rfl)
@[simp] theorem ty_sl (b : Str) : tyIs (.str b) .list = .ok false := (rfl)
@[simp] theorem ty_ti (b : List D) : tyIs (.tup b) .int = .ok false := (rfl)
@[simp] theorem ty_tb (b : List D) : tyIs (.tup b) .bool = .ok false := (rfl)
@[simp] theorem ty_ts (b : List D) : tyIs (.tup b) .str = .ok false := (rfl)
@[simp] theorem ty_tt (b : List D) : tyIs (.tup b) .tuple = .ok true := (rfl)
@[simp] theorem ty_tl (b : List D) : tyIs (.tup b) .list = .ok false := (rfl)
@[simp] theorem ty_li (b : List D) : tyIs (.lst b) .int = .ok false := (rfl)
@[simp] theorem ty_lb (b : List D) : tyIs (.lst b) .bool = .ok false := (rfl)
@[simp] theorem ty_ls (b : List D) : tyIs (.lst b) .str = .ok false := (rfl)
@[simp] theorem ty_lt (b : List D) : tyIs (.lst b) .tuple = .ok false := (rfl)
@[simp] theorem ty_ll (b : List D) : tyIs (.lst b) .list = .ok true := (rfl)

theorem callF_at {tab : List Ent} {gv : Nat → D} {wf k f : Nat} {ds : List D} (e : Ent) (h : tab[f]? = some e) (hl : ds.length + e.dv.length = e.d.ps.length) :
    callF tab gv wf (k + 1) f ds = (nE (exB ⟨callF tab gv wf k, gv, wf⟩ e.d.body ((ds ++ e.dv).map some ++ List.replicate (e.d.N.length - (ds ++ e.dv).length) none)) >>= onR) := by
  simp only [callF, h, hl, if_pos, runD_eq]

@[simp] theorem sizeLine_eq : sizeLine = 16777216 := (rfl)
@[simp] theorem isMut_lst (xs : List D) : isMut (.lst xs) = true := (rfl)

/-! ### loops -/
/-- a loop by its invariant: n turns, P i holds ahead of the i-th; Q of what it may hand back -/
theorem forL_rule {tg : Tg} {b : Env → Rs Fl} (P : Nat → Env → Prop) (E : Env → Prop) (Q : D → Prop) : ∀ {xs : List D} {i : Nat} {δ : Env},
    (∀ j x δ, xs[j]? = some x → P (i + j) δ → ∃ δ1, tset1 tg x δ = .ok δ1 ∧ ((∃ δ2, (b δ1 = .ok (.nx δ2) ∨ b δ1 = .ok (.ct δ2)) ∧ P (i + j + 1) δ2) ∨ (∃ δ2, b δ1 = .ok (.bk δ2) ∧ E δ2) ∨ ∃ d, b δ1 = .ok (.rt d) ∧ Q d)) →
    (∀ δ, P (i + xs.length) δ → E δ) → P i δ → (∃ δ', forL tg b xs δ = .ok (.nx δ') ∧ E δ') ∨ ∃ d, forL tg b xs δ = .ok (.rt d) ∧ Q d
  | [], i, δ, _, he, p => .inl ⟨δ, rfl, he δ p⟩
  | x :: xs, i, δ, h, he, p => by
    obtain ⟨δ1, e1, h1⟩ := h 0 x δ rfl p
    rw [forL_cons, e1, Rs.ok_bind]
    have nx : ∀ δ2, P (i + 1) δ2 → (∃ δ', forL tg b xs δ2 = .ok (.nx δ') ∧ E δ') ∨ ∃ d, forL tg b xs δ2 = .ok (.rt d) ∧ Q d := fun δ2 p2 =>
      forL_rule P E Q (xs := xs) (i := i + 1) (δ := δ2) (fun j y δ hj pj => by
        have := h (j + 1) y δ hj (by rwa [show i + (j + 1) = i + 1 + j by omega])
        rwa [show i + (j + 1) = i + 1 + j by omega] at this) (fun δ p => he δ (by rwa [List.length_cons, show i + (xs.length + 1) = i + 1 + xs.length by omega])) p2
    rcases h1 with ⟨δ2, e2, p2⟩ | ⟨δ2, e2, p2⟩ | ⟨d, e2, q⟩
    · rcases e2 with e2 | e2 <;> (rw [e2, Rs.ok_bind]; exact nx δ2 p2)
    · rw [e2]
      exact .inl ⟨δ2, rfl, p2⟩
    · rw [e2]
      exact .inr ⟨d, rfl, q⟩
/-- a loop that never leaves, by its invariant -/
theorem forL_inv {tg : Tg} {b : Env → Rs Fl} (I : Env → Prop) {xs : List D} {δ : Env} (h : ∀ x ∈ xs, ∀ δ, I δ → ∃ δ1 δ2, tset1 tg x δ = .ok δ1 ∧ (b δ1 = .ok (.nx δ2) ∨ b δ1 = .ok (.ct δ2)) ∧ I δ2) (i : I δ) : ∃ δ', forL tg b xs δ = .ok (.nx δ') ∧ I δ' := by
  have r := forL_rule (tg := tg) (b := b) (xs := xs) (i := 0) (δ := δ) (fun _ => I) I (fun _ => False) (fun j x δ hx p => by
    obtain ⟨δ1, δ2, e1, e2, p2⟩ := h x (List.mem_of_getElem? hx) δ p
    exact ⟨δ1, e1, .inl ⟨δ2, e2, p2⟩⟩) (fun _ p => p) i
  rcases r with r | ⟨_, _, z⟩
  · exact r
  · exact z.elim
/-- a loop as a fold -/
theorem forL_fold {α σ : Type} {tg : Tg} {b : Env → Rs Fl} (en : α → D) (es : σ → Env) (f : σ → α → σ) : ∀ (l : List α) (s : σ), (∀ x ∈ l, ∀ s, ∃ δ1, tset1 tg (en x) (es s) = .ok δ1 ∧ (b δ1 = .ok (.nx (es (f s x))) ∨ b δ1 = .ok (.ct (es (f s x))))) →
    forL tg b (l.map en) (es s) = .ok (.nx (es (l.foldl f s)))
  | [], s, _ => rfl
  | x :: l, s, h => by
    obtain ⟨δ1, e1, e2⟩ := h x (List.mem_cons_self ..) s
    rw [List.map_cons, forL_cons, e1, Rs.ok_bind]
    have ih := forL_fold en es f l (f s x) fun y hy => h y (List.mem_cons_of_mem _ hy)
    rcases e2 with e2 | e2
    · rw [e2]; exact ih
    · rw [e2]; exact ih
theorem iota_map (lo : Int) : ∀ n : Nat, iota lo n = (List.range n).map fun i : Nat => D.int (lo + (i : Int))
  | 0 => rfl
  | n + 1 => by
    rw [iota, iota_map (lo + 1) n, List.range_succ_eq_map, List.map_cons, List.map_map]
    refine congr (congrArg _ (by simp)) (List.map_congr_left fun i _ => ?_)
    simp only [Function.comp, D.int.injEq]
    omega
theorem iota_at {lo : Int} {n i : Nat} {d : D} (h : (iota lo n)[i]? = some d) : d = .int (lo + i) ∧ i < n := by
  rw [iota_map, List.getElem?_map] at h
  by_cases hi : i < n
  · rw [List.getElem?_range hi] at h
    cases h
    exact ⟨rfl, hi⟩
  · rw [List.getElem?_eq_none (by simpa using hi)] at h
    cases h
@[simp] theorem iota_length (lo : Int) (n : Nat) : (iota lo n).length = n := by simp [iota_map]

/-! ### bits -/
theorem band_nat (a b : Nat) : Builtin.bitAnd (a : Int) (b : Int) = ((a &&& b : Nat) : Int) := by rw [PyProof.Rows.bitAnd_pp (Int.natCast_nonneg a) (Int.natCast_nonneg b), Int.toNat_natCast, Int.toNat_natCast]
theorem bor_nat (a b : Nat) : Builtin.bitOr (a : Int) (b : Int) = ((a ||| b : Nat) : Int) := by
  rw [PyProof.Rows.bitOr_and, band_nat]
  have h : ∀ a b : Nat, a + b = (a ||| b) + (a &&& b) := by
    intro a
    induction a using Nat.strongRecOn with
    | ind a ih =>
      intro b
      by_cases h : a = 0
      · subst h; simp
      · have h1 := ih (a / 2) (by omega) (b / 2)
        have h2 : (a ||| b) / 2 = a / 2 ||| b / 2 := Nat.or_div_two
        have h3 : (a &&& b) / 2 = a / 2 &&& b / 2 := Nat.and_div_two
        have h4 : (a ||| b) % 2 = (a % 2) ||| (b % 2) := by simpa using Nat.or_mod_two_pow (a := a) (b := b) (n := 1)
        have h5 : (a &&& b) % 2 = (a % 2) &&& (b % 2) := by simpa using Nat.and_mod_two_pow (a := a) (b := b) (n := 1)
        have h6 : a % 2 + b % 2 = ((a % 2) ||| (b % 2)) + ((a % 2) &&& (b % 2)) := by
          rcases Nat.mod_two_eq_zero_or_one a with e | e <;> rcases Nat.mod_two_eq_zero_or_one b with e' | e' <;> rw [e, e'] <;> rfl
        omega
  have := h a b
  omega
theorem shr_nat (a b : Nat) : (a : Int) / 2 ^ b = ((a >>> b : Nat) : Int) := by
  rw [Nat.shiftRight_eq_div_pow]
  simp
theorem shr_bit (a i : Nat) : Builtin.bitAnd ((a : Int) / 2 ^ i) 1 = if a.testBit i then 1 else 0 := by
  rw [shr_nat, show (1 : Int) = ((1 : Nat) : Int) from rfl, band_nat, Nat.testBit, Nat.and_comm (a >>> i) 1]
  rcases Nat.mod_two_eq_zero_or_one (a >>> i) with e | e
  · have : 1 &&& a >>> i = 0 := by rw [Nat.and_comm, Nat.and_one_is_mod, e]
    rw [this]; simp
  · have : 1 &&& a >>> i = 1 := by rw [Nat.and_comm, Nat.and_one_is_mod, e]
    rw [this]; simp
end PV
namespace PV
open PySem PySem.Spec PyProof.Rows L2

/-! ### constants of the program -/
theorem gloI {K : PySem.W.Frag} {G : Wd} {x : Str} {i : Int} {t : Nat} (a : PySem.W.nsIn K mainGlobals x = some (some (.int i t))) : GloP K G x (.int i) := ⟨.int i, _, a, ⟨_, rfl⟩, fun _ _ => .int _⟩
theorem gloS {K : PySem.W.Frag} {G : Wd} {x : Str} {i : Str} {t : Nat} (a : PySem.W.nsIn K mainGlobals x = some (some (.str i t))) : GloP K G x (.str i) := ⟨.str i, _, a, ⟨_, rfl⟩, fun _ _ => .str _⟩

theorem gloT {K : PySem.W.Frag} {G : Wd} {x : Str} {T : Addr} {o : Obj} {vs : List Value} {n : Nat} {xs : List V} {ds : List D} (hG : G.K = K) (a : PySem.W.nsIn K mainGlobals x = some (some (.ref T)))
    (l : K.lookup T = some o) (c : o.cls = .type "tuple") (d : o.data = .seq vs.toArray n) (z : vs.length ≤ 1000) (r : Vals xs vs) (q : ∀ O H, Reps G O H xs ds) : GloP K G x (.tup ds) :=
  ⟨.ref T, _, a, rfl, fun O H => .tupK (fun H' => .inr ⟨o, vs.toArray, n, hG ▸ l, c, d, by rw [List.size_toArray]; exact Nat.le_trans z (by decide), r⟩) (q O H)⟩

theorem gloT' {K : PySem.W.Frag} {G : Wd} {x : Str} {T : Addr} {o : Obj} {vs : List Value} {n : Nat} {xs : List V} {ds : List D} (hG : G.K = K) (a : PySem.W.nsIn K mainGlobals x = some (some (.ref T)))
    (l : K.lookup T = some o) (c : o.cls = .type "tuple") (d : o.data = .seq vs.toArray n) (z : vs.length ≤ 1000) (r : Vals xs vs) (q : ∀ O H, Reps G O H xs ds) (e : o.dict = none) : GloP K G x (.gtp ds) :=
  ⟨.ref T, _, a, rfl, fun O H => .gT (fun H' => .inr ⟨o, vs.toArray, n, hG ▸ l, c, d, by rw [List.size_toArray]; exact Nat.le_trans z (by decide), r⟩) ⟨o, hG ▸ l, c, e⟩ (q O H)⟩
/-- a constant dict of texts by texts -/
def AllDV (K : PySem.W.Frag) (T : Addr) : List (Str × Str) → Prop
  | [] => True
  | x :: l => (∃ u, PySem.W.nsIn K T x.1 = some (some u) ∧ RelV (.str x.2) u) ∧ AllDV K T l
theorem AllDV.nil {K : PySem.W.Frag} {T : Addr} : AllDV K T [] := trivial
theorem AllDV.cons {K : PySem.W.Frag} {T : Addr} {x : Str × Str} {l : List (Str × Str)} {u : Value} (h : PySem.W.nsIn K T x.1 = some (some u)) (q : RelV (.str x.2) u) (r : AllDV K T l) : AllDV K T (x :: l) := ⟨⟨u, h, q⟩, r⟩
theorem AllDV.get {K : PySem.W.Frag} {T : Addr} : ∀ {l : List (Str × Str)}, AllDV K T l → ∀ z v, valV (l.map fun x => ((Sum.inr x.1 : Key), V.str x.2)) (.inr z) = some v → ∃ u, PySem.W.nsIn K T z = some (some u) ∧ RelV v u
  | [], _, _, _, e => by cases e
  | x :: l, h, z, v, e => by
    by_cases q : (Sum.inr x.1 : Key) = .inr z
    · rw [List.map_cons, valV_pos q] at e
      cases e
      obtain ⟨u, h1, h2⟩ := h.1
      cases q
      exact ⟨u, h1, h2⟩
    · rw [List.map_cons, valV_neg q] at e
      exact AllDV.get h.2 z v e
theorem repsK_str {G : Wd} {O : Addr → Prop} {H : Hp} : ∀ l : List (Str × Str), RepsK G O H (l.map fun x => ((Sum.inr x.1 : Key), V.str x.2)) (l.map fun x => (D.str x.1, D.str x.2))
  | [] => .nil
  | x :: l => .cons (k := .inr x.1) (.str x.2) (repsK_str l)
theorem gloD {K : PySem.W.Frag} {G : Wd} {x : Str} {T : Addr} {es : Array DictEntry} {n : Nat} {l : List (Str × Str)} (hG : G.K = K) (a : PySem.W.nsIn K mainGlobals x = some (some (.ref T)))
    (lk : K.lookup T = some ⟨.type "dict", none, .dict es n, #[]⟩) (k : PySem.W.KeysLit G.w.params es.toList) (q : AllDV K T l) : GloP K G x (.gdc (l.map fun x => (D.str x.1, D.str x.2))) :=
  ⟨.ref T, _, a, rfl, fun O H => .dG (fun z v e => by
    obtain ⟨u, h1, h2⟩ := q.get z v e
    exact ⟨es, n, u, hG ▸ lk, k, hG ▸ h1, h2⟩) (repsK_str l)⟩
/-! ### places and stretches of lists, tuples -/
@[simp] theorem len_gtp (xs : List D) : dBi .len [.gtp xs] = .ok (.int xs.length) := (rfl)
def onO (o : Option D) : Rs D := match o with
  | some d => .ok d
  | none => .st
@[simp] theorem onO_some (d : D) : onO (some d) = .ok d := (rfl)
theorem dIx_lst (xs : List D) (i : Int) : dIx (.lst xs) (.int i) = onO (atI xs i) := rfl
theorem dIx_tup (xs : List D) (i : Int) : dIx (.tup xs) (.int i) = onO (atI xs i) := rfl
theorem dIx_gtp (xs : List D) (i : Int) : dIx (.gtp xs) (.int i) = onO (atI xs i) := rfl
theorem atI_pos {α : Type} (xs : List α) (i : Int) (h : 0 ≤ i) : atI xs i = xs[i.toNat]? := by
  unfold atI ixN
  rw [if_pos h]
  split
  · rfl
  · rw [List.getElem?_eq_none (by omega)]; rfl
theorem atI_m1 {α : Type} (xs : List α) : atI xs (-1) = xs.getLast? := by
  unfold atI ixN
  rw [if_neg (by decide), List.getLast?_eq_getElem?]
  split
  · show xs[_]? = _
    congr 1
    omega
  · rw [List.getElem?_eq_none (by omega)]; rfl
@[simp] theorem ix_lstN (xs : List D) (n : Nat) : dIx (.lst xs) (.int (n : Int)) = onO xs[n]? := by rw [dIx_lst, atI_pos _ _ (Int.natCast_nonneg n), Int.toNat_natCast]
@[simp] theorem ix_tupN (xs : List D) (n : Nat) : dIx (.tup xs) (.int (n : Int)) = onO xs[n]? := by rw [dIx_tup, atI_pos _ _ (Int.natCast_nonneg n), Int.toNat_natCast]
@[simp] theorem ix_lstL (xs : List D) (n : Nat) : dIx (.lst xs) (.int (no_index (OfNat.ofNat n))) = onO xs[n]? := ix_lstN xs n
@[simp] theorem ix_tupL (xs : List D) (n : Nat) : dIx (.tup xs) (.int (no_index (OfNat.ofNat n))) = onO xs[n]? := ix_tupN xs n
@[simp] theorem ix_lstM (xs : List D) : dIx (.lst xs) (.int (-1)) = onO xs.getLast? := by rw [dIx_lst, atI_m1]
@[simp] theorem ix_tupM (xs : List D) : dIx (.tup xs) (.int (-1)) = onO xs.getLast? := by rw [dIx_tup, atI_m1]
theorem ix_lstP (xs : List D) (i : Int) (h : 0 ≤ i) : dIx (.lst xs) (.int i) = onO xs[i.toNat]? := by rw [dIx_lst, atI_pos _ _ h]
theorem ix_tupP (xs : List D) (i : Int) (h : 0 ≤ i) : dIx (.tup xs) (.int i) = onO xs[i.toNat]? := by rw [dIx_tup, atI_pos _ _ h]
theorem cut_hi (xs : List D) (n : Nat) : cutD xs none (some (n : Int)) = xs.take n := by
  unfold cutD
  rw [HT.sIx_nat, HT.sIx_none, List.drop_zero, List.take_eq_take_iff]
  omega
theorem cut_lo (xs : List D) (n : Nat) : cutD xs (some (n : Int)) none = xs.drop n := by
  unfold cutD
  rw [HT.sIx_nat, HT.sIx_none]
  rw [List.take_of_length_le (by rw [List.length_drop]; omega)]
  by_cases h : n ≤ xs.length
  · rw [Nat.min_eq_left h]
  · rw [Nat.min_eq_right (by omega), List.drop_eq_nil_of_le (Nat.le_refl _), List.drop_eq_nil_of_le (by omega)]
theorem cut_lohi (xs : List D) (a b : Nat) : cutD xs (some (a : Int)) (some (b : Int)) = (xs.drop a).take (b - a) := by
  unfold cutD
  rw [HT.sIx_nat, HT.sIx_nat]
  by_cases h : a ≤ xs.length
  · rw [Nat.min_eq_left h, List.take_eq_take_iff, List.length_drop]
    omega
  · rw [Nat.min_eq_right (show xs.length ≤ a by omega), List.drop_eq_nil_of_le (Nat.le_refl _), List.drop_eq_nil_of_le (by omega), List.take_nil, List.take_nil]
theorem cut_m1 (xs : List D) : cutD xs none (some (-1)) = xs.dropLast := by
  unfold cutD
  rw [HT.sIx_none, List.drop_zero, List.dropLast_eq_take]
  have e : HT.sIx xs.length xs.length (some (-1)) = ((-1 : Int) + (xs.length : Int)).toNat := by
    show (if (-1 : Int) < 0 then ((-1 : Int) + (xs.length : Int)).toNat else min (-1 : Int).toNat xs.length) = _
    rw [if_pos (by decide)]
  rw [e, List.take_eq_take_iff]
  omega
@[simp] theorem sl_lst (xs : List D) (lo hi : Option Int) : dSl (.lst xs) lo hi = .ok (.lst (cutD xs lo hi)) := (rfl)
@[simp] theorem sl_tup (xs : List D) (lo hi : Option Int) : dSl (.tup xs) lo hi = .ok (.tup (cutD xs lo hi)) := (rfl)
@[simp] theorem cut_hiL (xs : List D) (n : Nat) : cutD xs none (some (no_index (OfNat.ofNat n))) = xs.take n := cut_hi xs n
@[simp] theorem cut_loL (xs : List D) (n : Nat) : cutD xs (some (no_index (OfNat.ofNat n))) none = xs.drop n := cut_lo xs n
@[simp] theorem cut_lohiL (xs : List D) (a b : Nat) : cutD xs (some (no_index (OfNat.ofNat a))) (some (no_index (OfNat.ofNat b))) = (xs.drop a).take (b - a) := cut_lohi xs a b
@[simp] theorem cut_m1L (xs : List D) : cutD xs none (some (-1)) = xs.dropLast := cut_m1 xs

/-! ### shares and what is left -/
theorem bin_modG (i j : Int) (h : j ≠ 0) : dBin .mod (.int i) (.int j) = .ok (.int (imod i j)) := if_pos h
@[simp] theorem bi_divmod (i j : Int) : dBi .divmod [.int i, .int j] = if j ≠ 0 ∧ j.natAbs < 1073741824 then .ok (.tup [.int (idiv i j), .int (imod i j)]) else .st := (rfl)
theorem dm (a b : Int) (h : b ≠ 0) : b * idiv a b + imod a b = a ∧ (0 < b → 0 ≤ imod a b ∧ imod a b < b) ∧ (b < 0 → b < imod a b ∧ imod a b ≤ 0) := by
  by_cases hb : 0 < b
  · rw [idiv_pos hb, imod_pos hb]
    exact ⟨Int.mul_ediv_add_emod a b, fun _ => ⟨Int.emod_nonneg a h, Int.emod_lt_of_pos a hb⟩, fun z => by omega⟩
  · have e1 : idiv a b = a.fdiv b := if_neg hb
    have e2 : imod a b = a.fmod b := if_neg hb
    rw [e1, e2]
    refine ⟨Int.mul_fdiv_add_fmod a b, fun z => absurd z hb, fun z => ?_⟩
    have q := Int.neg_fmod_neg a b
    have q1 := Int.fmod_nonneg_of_pos (-a) (show 0 < -b by omega)
    have q2 := Int.fmod_lt_of_pos (-a) (show 0 < -b by omega)
    omega
theorem imod_mul (b q : Int) (h : b ≠ 0) : imod (b * q) b = 0 := by
  unfold imod
  split
  · exact Int.mul_emod_right b q
  · exact Int.mul_fmod_right b q

/-! ### dicts -/
@[simp] theorem dFind_nil (k : D) : dFind [] k = none := (rfl)
theorem dFind_cons (p : D × D) (r : List (D × D)) (k : D) : dFind (p :: r) k = if D.eqv p.1 k = true then some p.2 else dFind r k := by
  unfold dFind
  rw [List.find?_cons]
  cases D.eqv p.1 k <;> simp
@[simp] theorem ix_dct (kvs : List (D × D)) (s : Str) : dIx (.dct false kvs) (.str s) = onO (dFind kvs (.str s)) := (rfl)
@[simp] theorem ix_gdc (kvs : List (D × D)) (s : Str) : dIx (.gdc kvs) (.str s) = onO (dFind kvs (.str s)) := (rfl)
@[simp] theorem cmp_inD (kvs : List (D × D)) (s : Str) : dCmp .inn (.str s) (.dct false kvs) = .ok (.bl (dFind kvs (.str s)).isSome) := (rfl)
@[simp] theorem cmp_ninD (kvs : List (D × D)) (s : Str) : dCmp .notin (.str s) (.dct false kvs) = .ok (.bl (!(dFind kvs (.str s)).isSome)) := (rfl)
@[simp] theorem isK_int (i : Int) : isK (.int i) = true := (rfl)
@[simp] theorem isK_str (i : Str) : isK (.str i) = true := (rfl)

/-! ### likeness -/
@[simp] theorem eqv_tt (xs ys : List D) : D.eqv (.tup xs) (.tup ys) = D.eqvs xs ys := by simp only [D.eqv]
@[simp] theorem eqv_ll (xs ys : List D) : D.eqv (.lst xs) (.lst ys) = D.eqvs xs ys := by simp only [D.eqv]
@[simp] theorem eqvs_nil : D.eqvs [] [] = true := by simp only [D.eqvs]
@[simp] theorem eqvs_cn (x : D) (xs : List D) : D.eqvs (x :: xs) [] = false := by simp only [D.eqvs]
@[simp] theorem eqvs_nc (x : D) (xs : List D) : D.eqvs [] (x :: xs) = false := by simp only [D.eqvs]
@[simp] theorem eqvs_cons (x y : D) (xs ys : List D) : D.eqvs (x :: xs) (y :: ys) = (D.eqv x y && D.eqvs xs ys) := by simp only [D.eqvs]
theorem eqvs_empty (xs : List D) : D.eqvs xs [] = xs.isEmpty := by cases xs <;> simp
mutual
theorem eqv_refl : ∀ (n : Nat) (d : D), okN n d = true → D.eqv d d = true
  | _, .non, _ => by simp only [D.eqv]
  | _, .bl _, _ => by simp
  | _, .int _, _ => by simp
  | _, .str _, _ => by simp
  | n + 1, .tup xs, h => by rw [eqv_tt]; exact eqvs_refl n xs h
  | n + 1, .lst xs, h => by rw [eqv_ll]; exact eqvs_refl n xs h
  | 0, .tup _, h => by cases h
  | 0, .lst _, h => by cases h
  | _, .dct _ _, h => by simp [okN] at h
  | _, .gdc _, h => by simp [okN] at h
  | _, .gtp _, h => by simp [okN] at h
  | _, .ins _, h => by simp [okN] at h
  | _, .exc _ _, h => by simp [okN] at h
  | _, .nst _, h => by simp [okN] at h
  | _, .ndc _, h => by simp [okN] at h
  | _, .obj _ _, h => by simp [okN] at h
theorem eqvs_refl : ∀ (n : Nat) (xs : List D), xs.all (okN n) = true → D.eqvs xs xs = true
  | _, [], _ => by simp
  | n, x :: xs, h => by
    rw [List.all_cons, Bool.and_eq_true] at h
    rw [eqvs_cons, eqv_refl n x h.1, eqvs_refl n xs h.2]; rfl
end
/-- data without truths -/
def nbN : Nat → D → Bool
  | _, .non => true
  | _, .int _ => true
  | _, .str _ => true
  | n + 1, .tup xs => xs.all (nbN n)
  | n + 1, .lst xs => xs.all (nbN n)
  | _, _ => false
mutual
theorem eqv_eq : ∀ (n : Nat) (d e : D), nbN n d = true → nbN n e = true → D.eqv d e = true → d = e
  | _, .non, e, _, h', q => by cases e <;> first | rfl | (simp [D.eqv] at q)
  | _, .int _, e, _, h', q => by cases e <;> first | (simp [nbN] at h'; done) | (simp at q; rw [q]) | (simp [D.eqv] at q)
  | _, .str _, e, _, h', q => by cases e <;> first | (simp at q; rw [q]) | (simp [D.eqv] at q)
  | n + 1, .tup xs, e, h, h', q => by
    cases e <;> try (simp [D.eqv] at q; done)
    rw [eqv_tt] at q
    rw [eqvs_eq n xs _ h h' q]
  | n + 1, .lst xs, e, h, h', q => by
    cases e <;> try (simp [D.eqv] at q; done)
    rw [eqv_ll] at q
    rw [eqvs_eq n xs _ h h' q]
  | 0, .tup _, _, h, _, _ => by cases h
  | 0, .lst _, _, h, _, _ => by cases h
  | _, .bl _, _, h, _, _ => by simp [nbN] at h
  | _, .dct _ _, _, h, _, _ => by simp [nbN] at h
  | _, .gdc _, _, h, _, _ => by simp [nbN] at h
  | _, .gtp _, _, h, _, _ => by simp [nbN] at h
  | _, .ins _, _, h, _, _ => by simp [nbN] at h
  | _, .exc _ _, _, h, _, _ => by simp [nbN] at h
  | _, .nst _, _, h, _, _ => by simp [nbN] at h
  | _, .ndc _, _, h, _, _ => by simp [nbN] at h
  | _, .obj _ _, _, h, _, _ => by simp [nbN] at h
theorem eqvs_eq : ∀ (n : Nat) (xs ys : List D), xs.all (nbN n) = true → ys.all (nbN n) = true → D.eqvs xs ys = true → xs = ys
  | _, [], [], _, _, _ => rfl
  | _, [], _ :: _, _, _, q => by simp at q
  | _, _ :: _, [], _, _, q => by simp at q
  | n, x :: xs, y :: ys, h, h', q => by
    rw [List.all_cons, Bool.and_eq_true] at h h'
    rw [eqvs_cons, Bool.and_eq_true] at q
    rw [eqv_eq n x y h.1 h'.1 q.1, eqvs_eq n xs ys h.2 h'.2 q.2]
end
@[simp] theorem okN_non (n : Nat) : okN n .non = true := by cases n <;> rfl
@[simp] theorem okN_bl (n : Nat) (b : Bool) : okN n (.bl b) = true := by cases n <;> rfl
@[simp] theorem okN_int (n : Nat) (b : Int) : okN n (.int b) = true := by cases n <;> rfl
@[simp] theorem okN_str (n : Nat) (b : Str) : okN n (.str b) = PyData.strOk b := by cases n <;> rfl
@[simp] theorem okN_tup (n : Nat) (xs : List D) : okN (n + 1) (.tup xs) = xs.all (okN n) := (rfl)
@[simp] theorem okN_lst (n : Nat) (xs : List D) : okN (n + 1) (.lst xs) = xs.all (okN n) := (rfl)
@[simp] theorem nbN_non (n : Nat) : nbN n .non = true := by cases n <;> rfl
@[simp] theorem nbN_int (n : Nat) (b : Int) : nbN n (.int b) = true := by cases n <;> rfl
@[simp] theorem nbN_str (n : Nat) (b : Str) : nbN n (.str b) = true := by cases n <;> rfl
@[simp] theorem nbN_tup (n : Nat) (xs : List D) : nbN (n + 1) (.tup xs) = xs.all (nbN n) := (rfl)
@[simp] theorem nbN_lst (n : Nat) (xs : List D) : nbN (n + 1) (.lst xs) = xs.all (nbN n) := (rfl)
theorem cmp_eqT (xs ys : List D) : dCmp .eq (.tup xs) (.tup ys) = if okN 60 (.tup xs) && okN 60 (.tup ys) then .ok (.bl (D.eqvs xs ys)) else .st := by
  rw [← eqv_tt]; rfl
theorem cmp_neT (xs ys : List D) : dCmp .ne (.tup xs) (.tup ys) = if okN 60 (.tup xs) && okN 60 (.tup ys) then .ok (.bl (!D.eqvs xs ys)) else .st := by
  rw [← eqv_tt]; rfl
theorem cmp_eqL (xs ys : List D) : dCmp .eq (.lst xs) (.lst ys) = if okN 60 (.lst xs) && okN 60 (.lst ys) then .ok (.bl (D.eqvs xs ys)) else .st := by
  rw [← eqv_ll]; rfl
theorem cmp_neL (xs ys : List D) : dCmp .ne (.lst xs) (.lst ys) = if okN 60 (.lst xs) && okN 60 (.lst ys) then .ok (.bl (!D.eqvs xs ys)) else .st := by
  rw [← eqv_ll]; rfl
/-- a list held against [] -/
@[simp] theorem cmp_eqE (xs : List D) (h : xs.all (okN 59) = true) : dCmp .eq (.lst xs) (.lst []) = .ok (.bl xs.isEmpty) := by
  rw [cmp_eqL, okN_lst, okN_lst, h, eqvs_empty]; rfl
@[simp] theorem cmp_neE (xs : List D) (h : xs.all (okN 59) = true) : dCmp .ne (.lst xs) (.lst []) = .ok (.bl (!xs.isEmpty)) := by
  rw [cmp_neL, okN_lst, okN_lst, h, eqvs_empty]; rfl

/-! ### texts that are written -/
theorem ofString_inj {a b : String} : Str.ofString a = Str.ofString b ↔ a = b := by
  constructor
  · intro h
    rw [Str.ofString_eq_toList, Str.ofString_eq_toList] at h
    injection h with h
    have h : a.toList.map Char.toNat = b.toList.map Char.toNat := by simpa using congrArg Array.toList h
    have key : ∀ x y : List Char, x.map Char.toNat = y.map Char.toNat → x = y := by
      intro x
      induction x with
      | nil => intro y h; cases y <;> simp_all
      | cons c x ih =>
        intro y h
        cases y with
        | nil => simp at h
        | cons d y =>
          simp only [List.map_cons, List.cons.injEq] at h
          rw [ih y h.2, Char.toNat_inj.mp h.1]
    exact String.toList_inj.mp (key _ _ h)
  · rintro rfl; rfl
@[simp] theorem ofString_eq (a b : String) : (Str.ofString a = Str.ofString b) = (a = b) := propext ofString_inj
example : PySem.Str.ofString "a" ≠ PySem.Str.ofString "b" := by simp
end PV

namespace PV
open PySem PySem.Spec PyProof.Rows L2

/-! ### more rules of loops -/
/-- a loop that never leaves, with a count -/
theorem forL_cnt {tg : Tg} {b : Env → Rs Fl} (I : Nat → Env → Prop) {xs : List D} {δ : Env} (h : ∀ j x δ, xs[j]? = some x → I j δ → ∃ δ1 δ2, tset1 tg x δ = .ok δ1 ∧ (b δ1 = .ok (.nx δ2) ∨ b δ1 = .ok (.ct δ2)) ∧ I (j + 1) δ2) (i : I 0 δ) :
    ∃ δ', forL tg b xs δ = .ok (.nx δ') ∧ I xs.length δ' := by
  have r := forL_rule (tg := tg) (b := b) (xs := xs) (i := 0) (δ := δ) I (I xs.length) (fun _ => False) (fun j x δ hx p => by
    rw [Nat.zero_add] at p ⊢
    obtain ⟨δ1, δ2, e1, e2, p2⟩ := h j x δ hx p
    exact ⟨δ1, e1, .inl ⟨δ2, e2, p2⟩⟩) (fun _ p => by rwa [Nat.zero_add] at p) i
  rcases r with r | ⟨_, _, z⟩
  · exact r
  · exact z.elim
/-- a loop that asks p of each and hands r back at the first that fails -/
theorem forL_all {α : Type} {tg : Tg} {b : Env → Rs Fl} (en : α → D) (p : α → Bool) (r : D) (I : Env → Prop) : ∀ (l : List α) (δ : Env),
    (∀ x ∈ l, ∀ δ, I δ → ∃ δ1, tset1 tg (en x) δ = .ok δ1 ∧ ((p x = true ∧ ∃ δ2, b δ1 = .ok (.nx δ2) ∧ I δ2) ∨ (p x = false ∧ b δ1 = .ok (.rt r)))) → I δ →
    (l.all p = true ∧ ∃ δ', forL tg b (l.map en) δ = .ok (.nx δ') ∧ I δ') ∨ (l.all p = false ∧ forL tg b (l.map en) δ = .ok (.rt r))
  | [], δ, _, i => .inl ⟨rfl, δ, rfl, i⟩
  | x :: l, δ, h, i => by
    obtain ⟨δ1, e1, ⟨e2, δ2, e3, i2⟩ | ⟨e2, e3⟩⟩ := h x (List.mem_cons_self ..) δ i
    · rcases forL_all en p r I l δ2 (fun y hy => h y (List.mem_cons_of_mem _ hy)) i2 with ⟨q, δ', e4, i4⟩ | ⟨q, e4⟩
      · exact .inl ⟨by rw [List.all_cons, e2, q]; rfl, δ', by rw [List.map_cons, forL_cons, e1, Rs.ok_bind, e3]; exact e4, i4⟩
      · exact .inr ⟨by rw [List.all_cons, e2, q]; rfl, by rw [List.map_cons, forL_cons, e1, Rs.ok_bind, e3]; exact e4⟩
    · exact .inr ⟨by rw [List.all_cons, e2]; rfl, by rw [List.map_cons, forL_cons, e1, Rs.ok_bind, e3]; rfl⟩
/-- a comprehension without a condition, by what it gives -/
theorem compL_ok {tg : Tg} {c e : Env → Rs D} (δ : Env) : ∀ (l : List D) (f : D → D), (∀ x ∈ l, ∃ δ', tset1 tg x δ = .ok δ' ∧ c δ' = .ok (.bl true) ∧ e δ' = .ok (f x)) → compL tg c e l δ = .ok (l.map f)
  | [], _, _ => rfl
  | x :: l, f, h => by
    obtain ⟨δ', h1, h2, h3⟩ := h x (List.mem_cons_self ..)
    have ih := compL_ok δ l f fun y hy => h y (List.mem_cons_of_mem _ hy)
    rw [compL_cons, h1]
    simp [h2, h3, ih]

@[simp] theorem cmp_neEE : dCmp .ne (.lst []) (.lst []) = .ok (.bl false) := (rfl)
@[simp] theorem cmp_eqEE : dCmp .eq (.lst []) (.lst []) = .ok (.bl true) := (rfl)

theorem inv1 {v : Nat} {b : Env → Rs Fl} (I : Env → Prop) {xs : List D} {δ : Env} (h : ∀ x ∈ xs, ∀ δ, I δ → ∃ δ2, b (δ.set v (some x)) = .ok (.nx δ2) ∧ I δ2) (i : I δ) : ∃ δ', forL (.one v) b xs δ = .ok (.nx δ') ∧ I δ' :=
  forL_inv I (fun x hx δ p => let ⟨δ2, e, q⟩ := h x hx δ p; ⟨_, δ2, rfl, .inl e, q⟩) i
theorem cnt1 {v : Nat} {b : Env → Rs Fl} (I : Nat → Env → Prop) {xs : List D} {δ : Env} (h : ∀ j x δ, xs[j]? = some x → I j δ → ∃ δ2, b (δ.set v (some x)) = .ok (.nx δ2) ∧ I (j + 1) δ2) (i : I 0 δ) : ∃ δ', forL (.one v) b xs δ = .ok (.nx δ') ∧ I xs.length δ' :=
  forL_cnt I (fun j x δ hx p => let ⟨δ2, e, q⟩ := h j x δ hx p; ⟨_, δ2, rfl, .inl e, q⟩) i

theorem compL_il {tg : Tg} {c e : Env → Rs D} (δ : Env) (P : Int → Prop) : ∀ (l : List D), (∀ x ∈ l, ∃ δ' v, tset1 tg x δ = .ok δ' ∧ c δ' = .ok (.bl true) ∧ e δ' = .ok (.int v) ∧ P v) → ∃ vs : List Int, vs.length = l.length ∧ (∀ v ∈ vs, P v) ∧ compL tg c e l δ = .ok (vs.map D.int)
  | [], _ => ⟨[], rfl, by simp, rfl⟩
  | x :: l, h => by
    obtain ⟨δ', v, h1, h2, h3, h4⟩ := h x (List.mem_cons_self ..)
    obtain ⟨vs, e1, e2, e3⟩ := compL_il δ P l fun y hy => h y (List.mem_cons_of_mem _ hy)
    refine ⟨v :: vs, by simp [e1], fun w hw => ?_, by rw [compL_cons, h1]; simp [h2, h3, e3]⟩
    rcases List.mem_cons.mp hw with rfl | hw
    · exact h4
    · exact e2 w hw
theorem and_sub (a c : Nat) (h : ∀ b, a.testBit b = true → c.testBit b = true) : a &&& c = a := by
  apply Nat.eq_of_testBit_eq
  intro j
  have := h j
  rw [Nat.testBit_and]
  revert this
  cases a.testBit j <;> cases c.testBit j <;> simp
@[simp] theorem onS_nat (xs : List D) (n : Nat) (v : D) (i : Nat) (δ : Env) (h : n < xs.length) : onS (.lst xs) (.int n) v i δ = .ok (.nx (δ.set i (some (.lst (xs.set n v))))) := by
  have e : ixN xs.length (n : Int) = some n := by
    unfold ixN
    rw [if_pos (by omega), if_pos (by omega)]; simp
  show (match ixN xs.length (n : Int) with | some j => Rs.ok (Fl.nx (δ.set i (some (.lst (xs.set j v))))) | none => .st) = _
  rw [e]

@[simp] theorem bi_int1 (i : Int) : dBi .int1 [.int i] = .ok (.int i) := (rfl)
@[simp] theorem bi_int1b (b : Bool) : dBi .int1 [.bl b] = .ok (.int (if b = true then 1 else 0)) := (rfl)
@[simp] theorem cmp_eqIS (i : Int) (s : Str) (h : PyData.strOk s = true) : dCmp .eq (.int i) (.str s) = .ok (.bl false) := by
  show (if okN 60 (.int i) && okN 60 (.str s) then Rs.ok (D.bl (D.eqv (.int i) (.str s))) else .st) = _
  simp [h, D.eqv]
@[simp] theorem cmp_neIS (i : Int) (s : Str) (h : PyData.strOk s = true) : dCmp .ne (.int i) (.str s) = .ok (.bl true) := by
  show (if okN 60 (.int i) && okN 60 (.str s) then Rs.ok (D.bl (!D.eqv (.int i) (.str s))) else .st) = _
  simp [h, D.eqv]

/-! ### numbers from 0 on -/
def nl (l : List Nat) : List D := l.map fun n : Nat => .int n
@[simp] theorem nl_nil : nl [] = [] := (rfl)
@[simp] theorem nl_cons (a : Nat) (l : List Nat) : nl (a :: l) = .int a :: nl l := (rfl)
@[simp] theorem nl_append (a b : List Nat) : nl (a ++ b) = nl a ++ nl b := by simp [nl]
@[simp] theorem nl_length (l : List Nat) : (nl l).length = l.length := by simp [nl]
@[simp] theorem nl_isEmpty (l : List Nat) : (nl l).isEmpty = l.isEmpty := by cases l <;> rfl
@[simp] theorem nl_ok (n : Nat) (l : List Nat) : (nl l).all (okN n) = true := by simp [nl]
theorem nl_at (l : List Nat) (i : Nat) : (nl l)[i]? = l[i]?.map fun n : Nat => D.int n := by simp [nl]
theorem nl_get {l : List Nat} {i n : Nat} (h : l[i]? = some n) : (nl l)[i]? = some (.int n) := by rw [nl_at, h]; rfl
theorem nl_take (l : List Nat) (n : Nat) : (nl l).take n = nl (l.take n) := by simp [nl, List.map_take]
theorem nl_drop (l : List Nat) (n : Nat) : (nl l).drop n = nl (l.drop n) := by simp [nl, List.map_drop]
theorem iota_nl (n : Nat) : iota 0 n = nl (List.range n) := by rw [iota_map, nl]; simp
/-- a comprehension over numbers with a condition -/
theorem compL_nl {tg : Tg} {c e : Env → Rs D} (p : Nat → Bool) (f : Nat → D) (δ : Env) (l : List Nat) (h : ∀ x ∈ l, ∃ δ', tset1 tg (.int x) δ = .ok δ' ∧ c δ' = .ok (.bl (p x)) ∧ (p x = true → e δ' = .ok (f x))) :
    compL tg c e (nl l) δ = .ok ((l.filter p).map f) := compL_filter (fun n : Nat => D.int n) p f δ l h
theorem forL_allN {tg : Tg} {b : Env → Rs Fl} (p : Nat → Bool) (r : D) (I : Env → Prop) (l : List Nat) (δ : Env) (h : ∀ x ∈ l, ∀ δ, I δ → ∃ δ1, tset1 tg (.int x) δ = .ok δ1 ∧ ((p x = true ∧ ∃ δ2, b δ1 = .ok (.nx δ2) ∧ I δ2) ∨ (p x = false ∧ b δ1 = .ok (.rt r)))) (i : I δ) :
    (l.all p = true ∧ ∃ δ', forL tg b (nl l) δ = .ok (.nx δ') ∧ I δ') ∨ (l.all p = false ∧ forL tg b (nl l) δ = .ok (.rt r)) := forL_all (fun n : Nat => D.int n) p r I l δ h i
theorem in_nl (k : Nat) (l : List Nat) : dIn (.int k) (nl l) = decide (k ∈ l) := by
  unfold dIn nl
  rw [List.any_map, Bool.eq_iff_iff]
  simp
  constructor
  · rintro ⟨x, hx, e⟩
    have : x = k := by omega
    rw [← this]; exact hx
  · intro h
    exact ⟨k, h, rfl⟩
@[simp] theorem flat_nl (l : List Nat) : (nl l).all flatD = true := by simp [nl, flatD]
@[simp] theorem cmp_inT (k : Nat) (l : List Nat) : dCmp .inn (.int k) (.tup (nl l)) = .ok (.bl (decide (k ∈ l))) := by
  show (if flatD (.int k) && (nl l).all flatD then Rs.ok (D.bl (dIn (.int k) (nl l))) else .st) = _
  rw [flat_nl, in_nl]; rfl
@[simp] theorem cmp_ninT (k : Nat) (l : List Nat) : dCmp .notin (.int k) (.tup (nl l)) = .ok (.bl (!decide (k ∈ l))) := by
  show (if flatD (.int k) && (nl l).all flatD then Rs.ok (D.bl (!dIn (.int k) (nl l))) else .st) = _
  rw [flat_nl, in_nl]; rfl
theorem and_or (a b : Nat) : a &&& b = a ↔ a ||| b = b := by
  constructor
  · intro h
    apply Nat.eq_of_testBit_eq
    intro j
    have := congrArg (fun x => x.testBit j) h
    simp only [Nat.testBit_and] at this
    rw [Nat.testBit_or]
    revert this
    cases a.testBit j <;> cases b.testBit j <;> simp
  · intro h
    apply Nat.eq_of_testBit_eq
    intro j
    have := congrArg (fun x => x.testBit j) h
    simp only [Nat.testBit_or] at this
    rw [Nat.testBit_and]
    revert this
    cases a.testBit j <;> cases b.testBit j <;> simp
theorem nat_of {i : Int} (h : 0 ≤ i) : ∃ n : Nat, i = n := ⟨i.toNat, (Int.toNat_of_nonneg h).symm⟩

/-! ### bits of numbers from 0 on -/
theorem bit_xor (a b : Nat) : Builtin.bitXor (a : Int) (b : Int) = ((a ^^^ b : Nat) : Int) := by rw [Bits.bitXor_pp (Int.natCast_nonneg a) (Int.natCast_nonneg b), Int.toNat_natCast, Int.toNat_natCast]
theorem and_zero (a b m : Nat) (ha : a < 2 ^ m) : a &&& b = 0 ↔ ∀ j, j < m → ¬ (a.testBit j = true ∧ b.testBit j = true) := by
  constructor
  · intro h j _ ⟨h1, h2⟩
    have := congrArg (fun x => x.testBit j) h
    simp [h1, h2] at this
  · intro h
    apply Nat.eq_of_testBit_eq
    intro j
    rw [Nat.testBit_and, Nat.zero_testBit]
    by_cases hj : j < m
    · have := h j hj
      revert this
      cases a.testBit j <;> cases b.testBit j <;> simp
    · rw [Nat.testBit_lt_two_pow (Nat.lt_of_lt_of_le ha (Nat.pow_le_pow_right (by decide) (by omega)))]; rfl
theorem zero_bits (a m : Nat) (ha : a < 2 ^ m) : a = 0 ↔ ∀ j, j < m → ¬ a.testBit j = true := by
  constructor
  · rintro rfl j _
    simp
  · intro h
    apply Nat.eq_of_testBit_eq
    intro j
    rw [Nat.zero_testBit]
    by_cases hj : j < m
    · have := h j hj
      revert this
      cases a.testBit j <;> simp
    · exact Nat.testBit_lt_two_pow (Nat.lt_of_lt_of_le ha (Nat.pow_le_pow_right (by decide) (by omega)))
@[simp] theorem bin_shlN (a j : Nat) (h : j ≤ 1000000) (h2 : a < 2 ^ 64) : dBin .shl (.int a) (.int j) = .ok (.int ((a * 2 ^ j : Nat) : Int)) := by
  rw [bin_shl, if_pos ⟨by omega, by omega, by omega⟩]
  simp
theorem bin_shl1 (j : Nat) (h : j ≤ 1000000) : dBin .shl (.int 1) (.int j) = .ok (.int ((2 ^ j : Nat) : Int)) := by
  have := bin_shlN 1 j h (by decide)
  rw [Nat.one_mul] at this
  exact this
/-- is the bit set -/
theorem ev_bit (M : Mn) (δ : Env) (x i : Ex) (a j : Nat) (ha : ev M x δ = .ok (.int a)) (hi : ev M i δ = .ok (.int j)) : ev M (.cmp .eq (.bin .band (.bin .shr x i) (.cst (.int 1))) (.cst (.int 1))) δ = .ok (.bl (a.testBit j)) := by
  have e := shr_bit a j
  cases h : a.testBit j <;> simp [ha, hi, e, h]
@[simp] theorem cmp_inS (c : Nat) (z : Str) : dCmp .inn (.str ⟨#[c]⟩) (.str z) = .ok (.bl (decide (c ∈ z.cps.toList))) := (rfl)
@[simp] theorem cmp_ninS (c : Nat) (z : Str) : dCmp .notin (.str ⟨#[c]⟩) (.str z) = .ok (.bl (!decide (c ∈ z.cps.toList))) := (rfl)
end PV
namespace PV
open PySem PySem.Spec PyProof.Rows L2

/-- a def that stands under another name: x is the name in the module, nm its own -/
structure DefA (K : PySem.W.Frag) (x nm : Str) (st : Stmt) (f : Addr) : Prop where
  a : PySem.W.nsIn K mainGlobals x = some (some (.ref f))
  kp : PySem.W.keepIn K (.ref f) = true
  ex : ∃ (oc : Value) (od : Option Addr) (kV doc pm : Value) (an : Option Addr) (cdv ct : Value) (osl : Array (Option Value)),
    K.lookup f = some ⟨oc, od, .func (PySem.W.fnOf nm nm (defArgs st) (defBody st) (defScope st) .none kV doc pm an cdv ct), osl⟩ ∧ PySem.W.codeIn K cdv nm = true
theorem defA {K : PySem.W.Frag} {x nm : Str} {st : Stmt} {f : Addr} {oc : Value} {od : Option Addr} {kV doc pm : Value} {an : Option Addr} {cdv ct : Value} {osl : Array (Option Value)}
    (a : PySem.W.nsIn K mainGlobals x = some (some (.ref f)))
    (l : K.lookup f = some ⟨oc, od, .func (PySem.W.fnOf nm nm (defArgs st) (defBody st) (defScope st) .none kV doc pm an cdv ct), osl⟩)
    (c : PySem.W.codeIn K cdv nm = true) (k : PySem.W.keepIn K (.ref f) = true) : ∃ f, DefA K x nm st f := ⟨f, a, k, oc, od, kV, doc, pm, an, cdv, ct, osl, l, c⟩
section
variable {K : PySem.W.Frag} {mg : Str → Option Value} {h : Heap}
theorem DefA.fun {x nm : Str} {st : Stmt} {f : Addr} (F : DefA K x nm st f) : ∃ fd, FunD K nm nm (defArgs st) (defBody st) (defScope st) [] [] f fd := by
  obtain ⟨oc, od, kV, doc, pm, an, cdv, ct, osl, l, c⟩ := F.ex
  exact ⟨_, ⟨oc, od, .none, kV, doc, pm, an, cdv, ct, osl, rfl, l, c, .inl ⟨rfl, rfl⟩, .inl rfl⟩, F.kp⟩
theorem entA {G : Wd} {ci : CI} (X : K.In h) (N : h.Ns mainGlobals mg) {x nm : Str} {st : Stmt} {ps : List Str} {d : DefI} {i : Nat} (F : ∃ f, DefA K x nm st f) (hb : BindN nm st ps) (e1 : d.nm = x) (e2 : d.st = st) (e3 : d.ps = ps) (hm : noM ci i = true) : EntP K mg G ci i ⟨d, []⟩ := by
  subst e1 e2 e3
  obtain ⟨f, F⟩ := F
  obtain ⟨fd, D⟩ := F.fun
  exact ⟨f, fd, nm, nm, [], [], [], fun _ => PySem.W.mg_of X N F.a, fun k m z => (noM_of hm z).elim, F.kp, D, D.bindsN hb, .nil, fun _ _ => .nil⟩
end
end PV
namespace PV
open PySem PySem.Spec PyProof.Rows L2 He

/-! ### the end over a head by facts: the written part is what the run shows, looked at by truths -/
theorem exAt {K : PySem.W.Frag} {xs : List (PySem.W.Frag → Bool)} (h : (xs.all fun f => f K) = true) (i : Nat) {f : PySem.W.Frag → Bool} (e : xs[i]? = some f) : f K = true :=
  List.all_eq_true.mp h f (List.mem_of_getElem? e)
theorem clsB_ok {K : PySem.W.Frag} {x : Str} (h : clsB x K = true) : ClsF K x (ga K x) := by
  obtain ⟨a, h⟩ := ba h
  obtain ⟨b1, h⟩ := ba h
  obtain ⟨b2, h⟩ := ba h
  obtain ⟨b3, h⟩ := ba h
  obtain ⟨b4, h⟩ := ba h
  obtain ⟨b5, h⟩ := ba h
  obtain ⟨b6, h⟩ := ba h
  obtain ⟨b7, h⟩ := ba h
  obtain ⟨b8, h⟩ := ba h
  obtain ⟨b9, h⟩ := ba h
  obtain ⟨b10, b11⟩ := ba h
  exact clsF (eqO_ok a) b1 (eqO_ok b2) b3 b4 b5 b6 (eqO_ok b7) (eqO_ok b8) (eqO_ok b9) (of_decide_eq_true b10) (of_decide_eq_true b11)
theorem mthB_ok {K : PySem.W.Frag} {c m c0 : Str} (h : mthB c m c0 K = true) : PySem.W.findIn K (.ref (ga K c)) m = some (some (.ref (ma K (ga K c0) m))) ∧ PySem.W.isFn K (.ref (ma K (ga K c0) m)) = true := by
  obtain ⟨a, b⟩ := ba h
  exact ⟨eqO_ok a, b⟩
theorem kitB_ok {K : PySem.W.Frag} {c k : Str} {b : Bool} (h : kitB c k b K = true) : PySem.W.kitOne K (.ref (ga K c)) (.ref (ga K k)) = some b := by
  obtain ⟨h1, h⟩ := ba h
  obtain ⟨h2, h⟩ := ba h
  obtain ⟨h3, h4⟩ := ba h
  refine kitOwn h1 (of_decide_eq_true h2) (of_decide_eq_true h3) fun e => ?_
  rw [decide_eq_true e] at h4
  simpa using h4
theorem tupN_ok {K : PySem.W.Frag} {x : Str} (h : tupN x K = true) : ∃ o, K.lookup (ga K x) = some o ∧ o.cls = .type "tuple" ∧ o.dict = none := by
  unfold tupN at h
  cases q : K.lookup (ga K x) with
  | none => rw [q] at h; cases h
  | some o =>
    obtain ⟨oc, od, dt, osl⟩ := o
    rw [q] at h
    cases oc with
    | type c =>
      cases od with
      | none =>
        cases dt with
        | seq its n => exact ⟨_, rfl, congrArg Value.type (of_decide_eq_true h), rfl⟩
        | _ => cases h
      | some a => cases dt <;> cases h
    | _ => cases od <;> cases dt <;> cases h
/-! ### classes of exceptions -/
theorem oexB_ok {K : PySem.W.Frag} {C : Addr} (h : oexB K C = true) : ∃ nm q N bs bm sn sub ab col dd k0 k1 k2 k3 k5, K.lookup C = some (excClassObj nm q C N bs bm true sn sub ab col dd k0 k1 k2 k3 k5 "ValueError.__new__") ∧ PySem.HandSPX.refsVE bm = true := by
  unfold oexB at h
  split at h
  · rename_i t dd cd sl ho
    obtain ⟨h1, h⟩ := ba h
    split at h
    · rename_i c bm k0 k1 k2 k3 n k5 hm hs
      obtain ⟨h2, h⟩ := ba h
      obtain ⟨h3, h⟩ := ba h
      obtain ⟨h4, h⟩ := ba h
      obtain ⟨h5, h6⟩ := ba h
      have h1 := of_decide_eq_true h1
      have h2 := of_decide_eq_true h2
      have h3 := of_decide_eq_true h3
      subst h1 h2 h3
      obtain ⟨nm, bs, mro, ns, qn, hd, sn, sub, ab, col, del⟩ := cd
      dsimp only at hm h4 h5
      have h4 : del = false := by simpa using h4
      subst hm h4 h5
      have hsl : sl = #[k0, k1, k2, k3, some (.builtin "ValueError.__new__"), k5] := by
        obtain ⟨l⟩ := sl
        simp only at hs
        rw [hs]
      subst hsl
      exact ⟨nm, qn, ns, bs, bm, sn, sub, ab, col, dd, k0, k1, k2, k3, k5, ho, h6⟩
    · cases h
  · cases h
theorem excB_ok {K : PySem.W.Frag} {x : Str} (h : excB x K = true) : PySem.W.nsIn K mainGlobals x = some (some (.ref (ga K x))) ∧ OexC K (ga K x) ∧ XcF K (ga K x) := by
  obtain ⟨a, h⟩ := ba h
  obtain ⟨b1, h⟩ := ba h
  obtain ⟨b2, h⟩ := ba h
  obtain ⟨b3, h⟩ := ba h
  obtain ⟨b4, h⟩ := ba h
  obtain ⟨b5, h⟩ := ba h
  obtain ⟨b6, h⟩ := ba h
  obtain ⟨b7, h⟩ := ba h
  obtain ⟨b8, h⟩ := ba h
  obtain ⟨b9, h⟩ := ba h
  obtain ⟨b10, b11⟩ := ba h
  exact ⟨eqO_ok a, ⟨oexB_ok b1, eqO_ok b2, of_decide_eq_true b3, of_decide_eq_true b4, b5⟩, ⟨xfB_ok b6, b7, eqO_ok b8, eqO_ok b9, of_decide_eq_true b10, of_decide_eq_true b11⟩⟩
theorem initB_ok {K : PySem.W.Frag} {G : Wd} {x c0 qual : Str} {i : Nat} {d : InitI} (h : initB x c0 d.f d.base K = true) (he : excB x K = true) (hc : G.cl i = ga K x) (xn : G.xn i = some d.f) (F : ∃ fd, FunD K "__init__" qual (defArgs d.st) (defBody d.st) (defScope d.st) [] [] (ma K (ga K c0) "__init__") fd) (ok : d.ok = true) (tx : d.txt) (b : BindQ "__init__" qual d.st [d.s, d.p]) : InitN K G i x := by
  obtain ⟨a1, h⟩ := ba h
  obtain ⟨a2, h⟩ := ba h
  obtain ⟨a3, h⟩ := ba h
  obtain ⟨a4, h⟩ := ba h
  obtain ⟨a5, h⟩ := ba h
  obtain ⟨a6, a7⟩ := ba h
  obtain ⟨e1, e2, e3⟩ := excB_ok he
  obtain ⟨fd, F⟩ := F
  refine ⟨d, _, ga K d.base, fd, qual, xn, by rw [hc]; exact e1, by rw [hc]; exact e2, by rw [hc]; exact eqO_ok a1, of_decide_eq_true a2, by rw [hc]; exact eqO_ok a3, eqO_ok a4, ⟨a5, ?_, eqO_ok a7⟩, F, ok, tx, b⟩
  split at a6
  · rename_i q
    rw [q, of_decide_eq_true a6]
  · cases a6
theorem exqB_ok {K : PySem.W.Frag} {cl : Nat → Addr} {i : Nat} {j : Option Nat} {c : Str} {t : Option Str} {b : Bool} (h : exqB c t b K = true) (he : excB c K = true) (hc : cl i = ga K c) (ht : tgV cl j = match t with
    | some k => .ref (ga K k)
    | none => .type "ValueError") : XcF K (cl i) ∧ PySem.W.kitOne K (.ref (cl i)) (tgV cl j) = some b ∧ PySem.W.exmOne K (.ref (cl i)) (tgV cl j) = some b := by
  rw [hc, ht]
  refine ⟨(excB_ok he).2.2, ?_⟩
  cases t with
  | some k =>
    obtain ⟨h1, h2⟩ := ba h
    exact ⟨kitB_ok h1, of_decide_eq_true h2⟩
  | none =>
    obtain ⟨h1, h2⟩ := ba h
    exact ⟨of_decide_eq_true h1, of_decide_eq_true h2⟩
section
variable {K : PySem.W.Frag} {mg : Str → Option Value} {h : Heap} {G : Wd} {ci : CI}
theorem gloIE {x : Str} {i : Int} (c : (Fa.int x i).ok K = true) : GloP K G x (.int i) := by
  have c2 : (match PySem.W.nsIn K mainGlobals x with
    | some (some (.int j _)) => decide (j = i)
    | _ => false) = true := c
  split at c2
  · rename_i j t e
    have ej := of_decide_eq_true c2
    subst ej
    exact gloI e
  · cases c2
theorem gloSE {x : Str} {z : Str} (c : (Fa.str x z).ok K = true) : GloP K G x (.str z) := by
  have c2 : (match PySem.W.nsIn K mainGlobals x with
    | some (some (.str y _)) => decide (y = z)
    | _ => false) = true := c
  split at c2
  · rename_i j t e
    have ej := of_decide_eq_true c2
    subst ej
    exact gloS e
  · cases c2
theorem gloTE {x : Str} {vs : List Dv} {ds : List D} (hG : G.K = K) (a : (Fa.glo x).ok K = true) (c : tupB K x vs = true) (q : ∀ O H, Reps G O H (vs.map (Dv.v K)) ds) : GloP K G x (.tup ds) :=
  ⟨.ref (ga K x), _, eqO_ok a, rfl, fun O H => .tupK (fun H' => hG ▸ tupB_ok c H') (q O H)⟩
theorem gloTE' {x : Str} {vs : List Dv} {ds : List D} (hG : G.K = K) (a : (Fa.glo x).ok K = true) (c : tupB K x vs = true) (n : tupN x K = true) (q : ∀ O H, Reps G O H (vs.map (Dv.v K)) ds) : GloP K G x (.gtp ds) :=
  ⟨.ref (ga K x), _, eqO_ok a, rfl, fun O H => .gT (fun H' => hG ▸ tupB_ok c H') (by rw [hG]; exact tupN_ok n) (q O H)⟩
theorem allDV_of {T : Addr} : ∀ {l : List (Str × Str)}, valsB K T (l.map fun x => (x.1, Dv.str x.2)) = true → AllDV K T l
  | [], _ => .nil
  | x :: l, c => by
    obtain ⟨u, h1, h2⟩ := valsB_ok c (q := (x.1, Dv.str x.2)) List.mem_cons_self
    refine .cons h1 h2 (allDV_of ?_)
    unfold valsB at c ⊢
    rw [List.map_cons, List.all_cons, Bool.and_eq_true] at c
    exact c.2
theorem gloDE {x : Str} {l : List (Str × Str)} (hG : G.K = K) (a : (Fa.glo x).ok K = true) (d : ∃ es n, KDict K G.w (ga K x) es n) (c : valsB K (ga K x) (l.map fun x => (x.1, Dv.str x.2)) = true) : GloP K G x (.gdc (l.map fun x => (D.str x.1, D.str x.2))) := by
  obtain ⟨es, n, d⟩ := d
  exact gloD hG (eqO_ok a) d.1 d.2 (allDV_of c)
theorem entE (X : K.In h) (N : h.Ns mainGlobals mg) {x nm : Str} {st : Stmt} {ps : List Str} {d : DefI} {i : Nat} (g : (Fa.glo x).ok K = true) (F : ∃ fd, FunD K nm nm (defArgs st) (defBody st) (defScope st) [] [] (ga K x) fd) (hb : BindN nm st ps) (e1 : d.nm = x) (e2 : d.st = st) (e3 : d.ps = ps) (hm : noM ci i = true) : EntP K mg G ci i ⟨d, []⟩ := by
  subst e1 e2 e3
  obtain ⟨fd, D⟩ := F
  exact ⟨ga K d.nm, fd, nm, nm, [], [], [], fun _ => glo_ok X N g, fun k m z => (noM_of hm z).elim, D.kp, D, D.bindsN hb, .nil, fun _ _ => .nil⟩
theorem entDE (X : K.In h) (N : h.Ns mainGlobals mg) {nm : Str} {st : Stmt} {ps : List Str} {d : DefI} {its : List V} {dv : List D} {i : Nat} (g : (Fa.glo nm).ok K = true) (F : ∃ fd, FunD K nm nm (defArgs st) (defBody st) (defScope st) its [] (ga K nm) fd) (n j : Nat) (hb : BindD nm st ps n j its.length) (hn : its ≠ []) (hl : n + (its.length - j) = ps.length)
    (e1 : d.nm = nm) (e2 : d.st = st) (e3 : d.ps = ps) (hr : ∀ O H, Reps G O H (its.drop j) dv) (hm : noM ci i = true) : EntP K mg G ci i ⟨d, dv⟩ := by
  subst e1 e2 e3
  obtain ⟨fd, D⟩ := F
  obtain ⟨ds, r, b⟩ := D.binds1 n j hn hl hb
  exact ⟨ga K d.nm, fd, d.nm, d.nm, its, its.drop j, ds, fun _ => glo_ok X N g, fun k m z => (noM_of hm z).elim, D.kp, D, b, r, hr⟩
theorem entME {nm qual : Str} {st : Stmt} {ps : List Str} {d : DefI} {i : Nat} {f : Addr} (F : ∃ fd, FunD K nm qual (defArgs st) (defBody st) (defScope st) [] [] f fd) (fn : PySem.W.isFn K (.ref f) = true) (hb : BindQ nm qual st ps) (e1 : isG d.nm = false) (e2 : d.st = st) (e3 : d.ps = ps)
    (hm : ∀ k m, (k, m, i) ∈ ci.ms → Cls K (G.cl k) ∧ PySem.W.findIn K (.ref (G.cl k)) m = some (some (.ref f))) : EntP K mg G ci i ⟨d, []⟩ := by
  subst e2 e3
  obtain ⟨fd, D⟩ := F
  exact ⟨f, fd, nm, qual, [], [], [], fun z => (by rw [e1] at z; cases z), fun k m z => ⟨(hm k m z).1, (hm k m z).2, fn, D.kp⟩, D.kp, D, D.bindsN hb, .nil, fun _ _ => .nil⟩
theorem fin_okE {l : PySem.W.OpenLaw} {w : World} {fa : Addr} {tab : List Ent} {gl bl : List Str} {gv : Nat → D} {d : DefI} {x : Str} (G : Wd) (eK : G.K = K) (ew : G.w = w) (X : K.In h) (N : h.Ns mainGlobals mg) (hfa : mg "law" = some (.ref fa))
    (hE : AllI (EntP K mg G ci) 0 tab) (hG : AllG K G gv 0 gl) (hB : AllB K bl) (hC : AllC K G 0 ci.cs) (hS : AllS K G ci.ia) (hm : msOk ci tab = true) (hi : (ci.ia.all fun x => decide (x.1 < ci.cs.length)) = true) (hX : XcA K G ci) (hH : chkHs tab gl bl ci = true)
    (gL : (Fa.glo "law").ok K = true) (hL : ∃ fd, FunD K "law" "law" (defArgs d.st) (defBody d.st) (defScope d.st) [] [] (ga K "law") fd) (ck : (tab.all fun e => chkD tab gl bl ci e.d) = true) (cl : chkD tab gl bl ci d = true) (hd : isChg d.ret = false) (en : d.nm = "law") (ep : d.ps = [x])
    (hb : BindN "law" d.st [x]) (wf k : Nat) (holds : ∀ ns : List Int, ns.length ≤ 63 → runD (Mk tab gv wf k) d.N.length d.body [.lst (ns.map D.int)] = .ok (.bl true)) :
    ∃ fd : FuncData, (∀ (s : Shared) (u : Value), BindsTo s fd ⟨[u], []⟩ [(x, u)]) ∧ ∀ base : Heap, K.In base → base.Ns mainGlobals mg → FnOk l.prog w K mg base (L2N.CX l.prog w) (k + 3) fa fd [x] (spLaw K) := by
  have e := hfa.symm.trans (glo_ok X N gL)
  cases e
  obtain ⟨fd, D⟩ := hL
  refine ⟨fd, fun s u => D.bindsA hb s [u] rfl, fun base kb nb => ?_⟩
  have r := law_ok (P := l.prog) (w := w) (base := base) (k := k) ew (pg_mk G X N eK hE hG hB hC hS hm hi hX hH) (dOk_tab ck) (dOk_of cl) kb nb hd (by rw [ep]; rfl) D holds
  rw [ep] at r
  exact r
end
theorem walk_lawE {l : PySem.W.OpenLaw} {q : Program} {loose : List Str} {XP : (Str → Option Value) → Heap → Prop} {YP : World → Heap → Prop} {d : DefRec} {x : Str} (k : Nat) (hr : Room (k + 3) callerA) (hn : l.most = some 63) (hdf : d.params.defaults = [])
    (F : ∀ (w : World) (mg : Str → Option Value) (fa : Addr) (h : Heap), YP w h → h.Ns mainGlobals mg → mg d.name = some (.ref fa) →
      ∃ K : PySem.W.Frag, K.In h ∧ ∃ fd : FuncData, (∀ (s : Shared) (u : Value), BindsTo s fd ⟨[u], []⟩ [(x, u)]) ∧ ∀ base : Heap, K.In base → base.Ns mainGlobals mg → FnOk l.prog w K mg base (L2N.CX l.prog w) (k + 3) fa fd [x] (spLaw K)) :
    PySem.W.WalkO q loose XP YP l.row.toRowW d [] (fun f vs => PySem.call f vs) := by
  refine Att.attach_call hn hdf fun w s₀ s₁ mg mb fa o pm cd doc a vs ns G Y ho hd hcd hmg hobj hints hlen hg => ?_
  obtain ⟨K, KX, fd, hb, hF⟩ := F w mg fa _ Y G.T.g hmg
  exact law_call KX G.T.g G.T.b G.T.builtins G.T.nolimit hg hobj hints (Nat.le_trans hlen (by decide)) hr hF hb (fun H hO hS => ⟨a, ns, rfl, hS, hO, hlen, fun _ => rfl⟩) fun _ _ _ ⟨_, _, _, _, _, _, _, _, _, _, _, _, z⟩ => z.elim
/-! ### the Hook: what the module's names reach, as far as it is looked at -/
end PV
/-! the text of law_k29_twins_in_groups: its defs as the evaluator runs them -/
namespace Lw
open PySem PySem.Spec PyProof.Rows L2 PV
def f_l_program : Nat := 0
def f_l_cell_at : Nat := 1
def f_l_number_by : Nat := 2
def f_l_row_by : Nat := 3
def f_l_operands_by : Nat := 4
def f_l_operand_by : Nat := 5
def f_made : Nat := 6
def f_made_row : Nat := 7
def f_made_put : Nat := 8
def f_reckon : Nat := 9
def f_around : Nat := 10
def f_comes_to_nought : Nat := 11
def f_made_if : Nat := 12
def f_is_so : Nat := 13
def f_less_than : Nat := 14
def f_fakes : Nat := 15
def f_Sign_turned : Nat := 16
def f_put_at : Nat := 17
def f_next_sign : Nat := 18
def f_More_turned : Nat := 19
def f_operand_places : Nat := 20
def f_Turn_turned : Nat := 21
def f_Out_turned : Nat := 22
def f_Swap_turned : Nat := 23
def f_Far_turned : Nat := 24
def f_Sign_word : Nat := 25
def f_More_word : Nat := 26
def f_Turn_word : Nat := 27
def f_Out_word : Nat := 28
def f_Swap_word : Nat := 29
def f_Far_word : Nat := 30
def f_fake_of : Nat := 31
def f_l_alike : Nat := 32
def f_twins : Nat := 33
def g_REACH : Nat := 0
def g_NOUGHT : Nat := 1
def g_ONE : Nat := 2
def g_SUMS : Nat := 3
def g_LOOKS : Nat := 4
def g_CONTRARY : Nat := 5
def w0_l_program : Sts :=
 (.cons (.set false 7 (.lc (.one 8) (.rng1 (.cst (.int 4))) .no (.cal .any f_l_cell_at (.cons (.var 0) (.cons (.bin .add (.bin .add (.cst (.int 4)) (.bin .mul (.cst (.int 4)) (.var 5))) (.var 8)) .nil)))))
 (.cons (.app 4 (.cal .any f_l_row_by (.cons (.var 7) (.cons (.var 1) (.cons (.var 3) (.cons (.var 5) .nil))))))
 .nil))
def b_l_program : Sts :=
 (.cons (.set false 1 (.bin .mod (.cal .any f_l_cell_at (.cons (.var 0) (.cons (.cst (.int 0)) .nil))) (.cst (.int 6))))
 (.cons (.set true 2 (.lst .nil))
 (.cons (.iff (.cmp .gt (.var 1) (.cst (.int 0)))
  (.cons (.set false 6 (.bi .sorted1 (.cons (.lst (.cons (.cal .any f_l_number_by (.cons (.cal .any f_l_cell_at (.cons (.var 0) (.cons (.cst (.int 1)) .nil))) .nil)) (.cons (.cal .any f_l_number_by (.cons (.cal .any f_l_cell_at (.cons (.var 0) (.cons (.cst (.int 2)) .nil))) .nil)) .nil))) .nil)))
  (.cons (.app 2 (.tup (.cons (.ix (.var 6) (.cst (.int 0))) (.cons (.ix (.var 6) (.cst (.int 1))) .nil))))
  .nil))
  .nil)
 (.cons (.set false 3 (.bi .min2 (.cons (.ix (.lst (.cons (.cst (.int 7)) (.cons (.cst (.int 12)) .nil))) (.bi .int1 (.cons (.cmp .eq (.bin .mod (.cal .any f_l_cell_at (.cons (.var 0) (.cons (.cst (.int 3)) .nil))) (.cst (.int 8))) (.cst (.int 5))) .nil))) (.cons (.bin .fdiv (.bin .sub (.bi .max2 (.cons (.bi .len (.cons (.var 0) .nil)) (.cons (.cst (.int 4)) .nil))) (.cst (.int 1))) (.cst (.int 4))) .nil))))
 (.cons (.set true 4 (.lst .nil))
 (.cons (.for (.one 5) (.rng1 (.var 3)) w0_l_program [2, 4])
 (.cons (.ret (.tup (.cons (.bi .tuple1 (.cons (.var 2) .nil)) (.cons (.var 1) (.cons (.bi .tuple1 (.cons (.var 4) .nil)) .nil)))))
 .nil)))))))
def d_l_program : DefI := ⟨"_law_program", s_l_program, ["_law_script", "_law_names", "_law_takes", "_law_many", "_law_rows", "_law_k", "_law_ends", "_law_cells", "_law_j"], ["_law_script"], .frz, b_l_program⟩
def b_l_cell_at : Sts :=
 (.cons (.iff (.cmp .lt (.var 1) (.bi .len (.cons (.var 0) .nil)))
  (.cons (.ret (.ix (.var 0) (.var 1)))
  .nil)
  .nil)
 (.cons (.ret (.cst (.int 0)))
 .nil))
def d_l_cell_at : DefI := ⟨"_law_cell_at", s_l_cell_at, ["_law_script", "_law_k"], ["_law_script", "_law_k"], .frz, b_l_cell_at⟩
def b_l_number_by : Sts :=
 (.cons (.iff (.cmp .eq (.bin .mod (.var 0) (.cst (.int 3))) (.cst (.int 0)))
  (.cons (.ret (.ix (.lst (.cons (.neg (.cst (.int 1000000000))) (.cons (.cst (.int 999999999)) (.cons (.neg (.cst (.int 1))) (.cons (.cst (.int 0)) (.cons (.cst (.int 1)) (.cons (.cst (.int 2)) (.cons (.neg (.cst (.int 999999999))) (.cons (.cst (.int 999999998)) .nil))))))))) (.bin .mod (.bin .fdiv (.var 0) (.cst (.int 3))) (.cst (.int 8)))))
  .nil)
  .nil)
 (.cons (.ret (.bin .sub (.bin .mod (.bin .mul (.bin .fdiv (.var 0) (.cst (.int 3))) (.cst (.int 48271))) (.cst (.int 2000000000))) (.cst (.int 1000000000))))
 .nil))
def d_l_number_by : DefI := ⟨"_law_number_by", s_l_number_by, ["_law_cell"], ["_law_cell"], .frz, b_l_number_by⟩
def b_l_row_by : Sts :=
 (.cons (.unp [6, 7] (.cal .any f_l_operands_by (.cons (.var 0) (.cons (.var 1) .nil))))
 (.cons (.set false 4 (.bin .mod (.bin .fdiv (.ix (.var 0) (.cst (.int 3))) (.cst (.int 5))) (.bin .add (.var 2) (.cst (.int 1)))))
 (.cons (.iff (.cmp .eq (.bin .mod (.bin .fdiv (.ix (.var 0) (.cst (.int 3))) (.cst (.int 65))) (.cst (.int 6))) (.cst (.int 2)))
  (.cons (.set false 4 (.bin .add (.var 3) (.cst (.int 1))))
  .nil)
  .nil)
 (.cons (.set false 5 (.bin .fdiv (.ix (.var 0) (.cst (.int 0))) (.cst (.int 8))))
 (.cons (.iff (.and (.cmp .lt (.bin .mod (.ix (.var 0) (.cst (.int 0))) (.cst (.int 8))) (.cst (.int 3))) (.cmp .gt (.var 1) (.cst (.int 0))))
  (.cons (.ret (.tup (.cons (.cst (.str "put")) (.cons (.bin .mod (.bin .mod (.ix (.var 0) (.cst (.int 3))) (.cst (.int 5))) (.var 1)) (.cons (.var 6) (.cons (.ix (.lst (.cons (.cst (.str "+")) (.cons (.cst (.str "-")) (.cons (.cst (.str "*")) (.cons (.cst (.str "/")) (.cons (.cst (.str "mod")) .nil)))))) (.bin .mod (.var 5) (.cst (.int 5)))) (.cons (.var 7) .nil)))))))
  .nil)
  .nil)
 (.cons (.iff (.cmp .lt (.bin .mod (.ix (.var 0) (.cst (.int 0))) (.cst (.int 8))) (.cst (.int 5)))
  (.cons (.ret (.tup (.cons (.cst (.str "if")) (.cons (.var 6) (.cons (.ix (.lst (.cons (.cst (.str "<")) (.cons (.cst (.str "<=")) (.cons (.cst (.str "=")) (.cons (.cst (.str ">=")) (.cons (.cst (.str ">")) (.cons (.cst (.str "!=")) .nil))))))) (.bin .mod (.var 5) (.cst (.int 6)))) (.cons (.var 7) (.cons (.var 4) .nil)))))))
  .nil)
  .nil)
 (.cons (.iff (.cmp .eq (.bin .mod (.ix (.var 0) (.cst (.int 0))) (.cst (.int 8))) (.cst (.int 5)))
  (.cons (.ret (.tup (.cons (.cst (.str "go")) (.cons (.var 4) .nil))))
  .nil)
  .nil)
 (.cons (.iff (.cmp .eq (.bin .mod (.ix (.var 0) (.cst (.int 0))) (.cst (.int 8))) (.cst (.int 6)))
  (.cons (.ret (.tup (.cons (.cst (.str "tell")) (.cons (.var 6) .nil))))
  .nil)
  .nil)
 (.cons (.ret (.tup (.cons (.cst (.str "skip")) .nil)))
 .nil)))))))))
def d_l_row_by : DefI := ⟨"_law_row_by", s_l_row_by, ["_law_cells", "_law_names", "_law_many", "_law_at", "_law_t", "_law_sign", "_law_y", "_law_z"], ["_law_cells", "_law_names", "_law_many", "_law_at"], .frz, b_l_row_by⟩
def b_l_operands_by : Sts :=
 (.cons (.set false 2 (.cal .any f_l_operand_by (.cons (.ix (.var 0) (.cst (.int 1))) (.cons (.var 1) .nil))))
 (.cons (.set false 3 (.cal .any f_l_operand_by (.cons (.ix (.var 0) (.cst (.int 2))) (.cons (.var 1) .nil))))
 (.cons (.set false 4 (.bin .mod (.bin .fdiv (.ix (.var 0) (.cst (.int 3))) (.cst (.int 65))) (.cst (.int 6))))
 (.cons (.iff (.cmp .eq (.var 4) (.cst (.int 1)))
  (.cons (.ret (.tup (.cons (.var 2) (.cons (.var 2) .nil))))
  .nil)
  .nil)
 (.cons (.iff (.and (.cmp .eq (.var 4) (.cst (.int 3))) (.cmp .gt (.var 1) (.cst (.int 0))))
  (.cons (.ret (.tup (.cons (.tup (.cons (.cst (.str "name")) (.cons (.bin .mod (.bin .mod (.ix (.var 0) (.cst (.int 3))) (.cst (.int 5))) (.var 1)) .nil))) (.cons (.tup (.cons (.cst (.str "number")) (.cons (.bin .mod (.ix (.var 0) (.cst (.int 2))) (.cst (.int 2))) .nil))) .nil))))
  .nil)
  .nil)
 (.cons (.iff (.cmp .eq (.var 4) (.cst (.int 4)))
  (.cons (.ret (.tup (.cons (.var 2) (.cons (.tup (.cons (.cst (.str "number")) (.cons (.bin .mod (.ix (.var 0) (.cst (.int 2))) (.cst (.int 2))) .nil))) .nil))))
  .nil)
  .nil)
 (.cons (.iff (.cmp .eq (.var 4) (.cst (.int 5)))
  (.cons (.ret (.tup (.cons (.tup (.cons (.cst (.str "number")) (.cons (.bin .mod (.ix (.var 0) (.cst (.int 1))) (.cst (.int 2))) .nil))) (.cons (.var 3) .nil))))
  .nil)
  .nil)
 (.cons (.ret (.tup (.cons (.var 2) (.cons (.var 3) .nil))))
 .nil))))))))
def d_l_operands_by : DefI := ⟨"_law_operands_by", s_l_operands_by, ["_law_cells", "_law_names", "_law_y", "_law_z", "_law_way"], ["_law_cells", "_law_names"], .frz, b_l_operands_by⟩
def b_l_operand_by : Sts :=
 (.cons (.iff (.and (.cmp .gt (.var 1) (.cst (.int 0))) (.cmp .lt (.bin .mod (.var 0) (.cst (.int 5))) (.cst (.int 3))))
  (.cons (.ret (.tup (.cons (.cst (.str "name")) (.cons (.bin .mod (.bin .fdiv (.var 0) (.cst (.int 5))) (.var 1)) .nil))))
  .nil)
  .nil)
 (.cons (.ret (.tup (.cons (.cst (.str "number")) (.cons (.cal .any f_l_number_by (.cons (.bin .fdiv (.var 0) (.cst (.int 5))) .nil)) .nil))))
 .nil))
def d_l_operand_by : DefI := ⟨"_law_operand_by", s_l_operand_by, ["_law_cell", "_law_names"], ["_law_cell", "_law_names"], .frz, b_l_operand_by⟩
def b_made : Sts :=
 (.cons (.unp [1, 2, 3] (.var 0))
 (.cons (.ret (.tup (.cons (.var 1) (.cons (.var 2) (.cons (.bi .tuple1 (.cons (.lc (.many [4, 5]) (.enum (.var 3)) .no (.cal .any f_made_row (.cons (.var 5) (.cons (.var 4) .nil)))) .nil)) .nil)))))
 .nil))
def d_made : DefI := ⟨"made", s_made, ["program", "takes", "many", "rows", "k", "row"], ["program"], .frz, b_made⟩
def b_made_row : Sts :=
 (.cons (.iff (.cmp .eq (.ix (.var 0) (.cst (.int 0))) (.cst (.str "put")))
  (.cons (.ret (.cal .any f_made_put (.cons (.ix (.var 0) (.cst (.int 1))) (.cons (.ix (.var 0) (.cst (.int 2))) (.cons (.ix (.var 0) (.cst (.int 3))) (.cons (.ix (.var 0) (.cst (.int 4))) .nil))))))
  .nil)
  .nil)
 (.cons (.iff (.and (.cmp .eq (.ix (.var 0) (.cst (.int 0))) (.cst (.str "if"))) (.cmp .ne (.ix (.var 0) (.cst (.int 4))) (.bin .add (.var 1) (.cst (.int 1)))))
  (.cons (.ret (.cal .any f_made_if (.cons (.ix (.var 0) (.cst (.int 1))) (.cons (.ix (.var 0) (.cst (.int 2))) (.cons (.ix (.var 0) (.cst (.int 3))) (.cons (.ix (.var 0) (.cst (.int 4))) .nil))))))
  .nil)
  .nil)
 (.cons (.iff (.or (.cmp .eq (.ix (.var 0) (.cst (.int 0))) (.cst (.str "if"))) (.cmp .eq (.var 0) (.tup (.cons (.cst (.str "go")) (.cons (.bin .add (.var 1) (.cst (.int 1))) .nil)))))
  (.cons (.ret (.tup (.cons (.cst (.str "skip")) .nil)))
  .nil)
  .nil)
 (.cons (.ret (.var 0))
 .nil))))
def d_made_row : DefI := ⟨"made_row", s_made_row, ["row", "k"], ["row", "k"], .frz, b_made_row⟩
def b_made_put : Sts :=
 (.cons (.iff (.and (.cmp .eq (.ix (.var 1) (.cst (.int 0))) (.cst (.str "number"))) (.cmp .eq (.ix (.var 3) (.cst (.int 0))) (.cst (.str "number"))))
  (.cons (.ret (.tup (.cons (.cst (.str "put")) (.cons (.var 0) (.cons (.tup (.cons (.cst (.str "number")) (.cons (.cal .any f_reckon (.cons (.ix (.var 1) (.cst (.int 1))) (.cons (.var 2) (.cons (.ix (.var 3) (.cst (.int 1))) .nil)))) .nil))) (.cons (.cst (.str "+")) (.cons (.glob g_NOUGHT) .nil)))))))
  .nil)
  .nil)
 (.cons (.iff (.and (.cmp .eq (.var 2) (.cst (.str "-"))) (.cmp .eq (.ix (.var 3) (.cst (.int 0))) (.cst (.str "number"))))
  (.cons (.set false 2 (.cst (.str "+")))
  (.cons (.set false 3 (.tup (.cons (.cst (.str "number")) (.cons (.cal .any f_around (.cons (.bin .sub (.cst (.int 0)) (.ix (.var 3) (.cst (.int 1)))) .nil)) .nil))))
  .nil))
  .nil)
 (.cons (.iff (.and (.cmp .inn (.var 2) (.tup (.cons (.cst (.str "+")) (.cons (.cst (.str "*")) .nil)))) (.cmp .lt (.var 3) (.var 1)))
  (.cons (.par 1 3 (.var 3) (.var 1))
  .nil)
  .nil)
 (.cons (.iff (.cal .any f_comes_to_nought (.cons (.var 1) (.cons (.var 2) (.cons (.var 3) .nil))))
  (.cons (.ret (.tup (.cons (.cst (.str "put")) (.cons (.var 0) (.cons (.glob g_NOUGHT) (.cons (.cst (.str "+")) (.cons (.glob g_NOUGHT) .nil)))))))
  .nil)
  .nil)
 (.cons (.iff (.and (.cmp .inn (.var 2) (.tup (.cons (.cst (.str "*")) (.cons (.cst (.str "/")) .nil)))) (.cmp .eq (.var 3) (.glob g_ONE)))
  (.cons (.set false 2 (.cst (.str "+")))
  (.cons (.set false 3 (.glob g_NOUGHT))
  .nil))
  .nil)
 (.cons (.iff (.and (.cmp .eq (.var 1) (.tup (.cons (.cst (.str "name")) (.cons (.var 0) .nil)))) (.and (.cmp .eq (.var 2) (.cst (.str "+"))) (.cmp .eq (.var 3) (.glob g_NOUGHT))))
  (.cons (.ret (.tup (.cons (.cst (.str "skip")) .nil)))
  .nil)
  .nil)
 (.cons (.ret (.tup (.cons (.cst (.str "put")) (.cons (.var 0) (.cons (.var 1) (.cons (.var 2) (.cons (.var 3) .nil)))))))
 .nil)))))))
def d_made_put : DefI := ⟨"made_put", s_made_put, ["x", "y", "sign", "z"], ["x", "y", "sign", "z"], .frz, b_made_put⟩
def b_reckon : Sts :=
 (.cons (.iff (.cmp .eq (.var 1) (.cst (.str "+")))
  (.cons (.ret (.cal .any f_around (.cons (.bin .add (.var 0) (.var 2)) .nil)))
  .nil)
  .nil)
 (.cons (.iff (.cmp .eq (.var 1) (.cst (.str "-")))
  (.cons (.ret (.cal .any f_around (.cons (.bin .sub (.var 0) (.var 2)) .nil)))
  .nil)
  .nil)
 (.cons (.iff (.cmp .eq (.var 1) (.cst (.str "*")))
  (.cons (.ret (.cal .any f_around (.cons (.bin .mul (.var 0) (.var 2)) .nil)))
  .nil)
  .nil)
 (.cons (.iff (.cmp .eq (.var 2) (.cst (.int 0)))
  (.cons (.iff (.cmp .eq (.var 1) (.cst (.str "/")))
   (.cons (.ret (.cst (.int 0)))
   .nil)
   .nil)
  (.cons (.ret (.var 0))
  .nil))
  .nil)
 (.cons (.unp [3, 4] (.bi .divmod (.cons (.var 0) (.cons (.var 2) .nil))))
 (.cons (.iff (.cmp .eq (.var 1) (.cst (.str "/")))
  (.cons (.ret (.cal .any f_around (.cons (.var 3) .nil)))
  .nil)
  .nil)
 (.cons (.ret (.var 4))
 .nil)))))))
def d_reckon : DefI := ⟨"reckon", s_reckon, ["one", "sign", "other", "share", "left"], ["one", "sign", "other"], .frz, b_reckon⟩
def b_around : Sts :=
 (.cons (.ret (.bin .sub (.bin .mod (.bin .add (.var 0) (.glob g_REACH)) (.bin .mul (.cst (.int 2)) (.glob g_REACH))) (.glob g_REACH)))
 .nil)
def d_around : DefI := ⟨"around", s_around, ["number"], ["number"], .new, b_around⟩
def b_comes_to_nought : Sts :=
 (.cons (.iff (.cmp .eq (.var 1) (.cst (.str "*")))
  (.cons (.ret (.cmp .eq (.var 2) (.glob g_NOUGHT)))
  .nil)
  .nil)
 (.cons (.iff (.cmp .eq (.var 1) (.cst (.str "mod")))
  (.cons (.ret (.cmp .eq (.var 2) (.glob g_ONE)))
  .nil)
  .nil)
 (.cons (.ret (.and (.cmp .eq (.var 1) (.cst (.str "-"))) (.cmp .eq (.var 0) (.var 2))))
 .nil)))
def d_comes_to_nought : DefI := ⟨"comes_to_nought", s_comes_to_nought, ["y", "sign", "z"], ["y", "sign", "z"], .frz, b_comes_to_nought⟩
def b_made_if : Sts :=
 (.cons (.iff (.cmp .inn (.var 1) (.tup (.cons (.cst (.str ">")) (.cons (.cst (.str ">=")) .nil))))
  (.cons (.set false 1 (.ix (.dsp [.str ">", .str ">="] (.cons (.cst (.str "<")) (.cons (.cst (.str "<=")) .nil))) (.var 1)))
  (.cons (.par 0 2 (.var 2) (.var 0))
  .nil))
  .nil)
 (.cons (.iff (.or (.cmp .eq (.var 0) (.var 2)) (.and (.cmp .eq (.ix (.var 0) (.cst (.int 0))) (.cst (.str "number"))) (.cmp .eq (.ix (.var 2) (.cst (.int 0))) (.cst (.str "number")))))
  (.cons (.iff (.cal .any f_is_so (.cons (.ix (.var 0) (.cst (.int 1))) (.cons (.var 1) (.cons (.ix (.var 2) (.cst (.int 1))) .nil))))
   (.cons (.ret (.tup (.cons (.cst (.str "go")) (.cons (.var 3) .nil))))
   .nil)
   .nil)
  (.cons (.ret (.tup (.cons (.cst (.str "skip")) .nil)))
  .nil))
  .nil)
 (.cons (.iff (.and (.cmp .inn (.var 1) (.tup (.cons (.cst (.str "=")) (.cons (.cst (.str "!=")) .nil)))) (.cmp .lt (.var 2) (.var 0)))
  (.cons (.par 0 2 (.var 2) (.var 0))
  .nil)
  .nil)
 (.cons (.iff (.cmp .eq (.var 1) (.cst (.str "<=")))
  (.cons (.ret (.cal .any f_less_than (.cons (.var 0) (.cons (.var 2) (.cons (.var 3) .nil)))))
  .nil)
  .nil)
 (.cons (.ret (.tup (.cons (.cst (.str "if")) (.cons (.var 0) (.cons (.var 1) (.cons (.var 2) (.cons (.var 3) .nil)))))))
 .nil)))))
def d_made_if : DefI := ⟨"made_if", s_made_if, ["y", "sign", "z", "t"], ["y", "sign", "z", "t"], .frz, b_made_if⟩
def b_is_so : Sts :=
 (.cons (.iff (.cmp .eq (.var 1) (.cst (.str "<")))
  (.cons (.ret (.cmp .lt (.var 0) (.var 2)))
  .nil)
  .nil)
 (.cons (.iff (.cmp .eq (.var 1) (.cst (.str "<=")))
  (.cons (.ret (.cmp .le (.var 0) (.var 2)))
  .nil)
  .nil)
 (.cons (.iff (.cmp .eq (.var 1) (.cst (.str "=")))
  (.cons (.ret (.cmp .eq (.var 0) (.var 2)))
  .nil)
  .nil)
 (.cons (.iff (.cmp .eq (.var 1) (.cst (.str ">=")))
  (.cons (.ret (.cmp .ge (.var 0) (.var 2)))
  .nil)
  .nil)
 (.cons (.iff (.cmp .eq (.var 1) (.cst (.str ">")))
  (.cons (.ret (.cmp .gt (.var 0) (.var 2)))
  .nil)
  .nil)
 (.cons (.ret (.cmp .ne (.var 0) (.var 2)))
 .nil))))))
def d_is_so : DefI := ⟨"is_so", s_is_so, ["one", "sign", "other"], ["one", "sign", "other"], .frz, b_is_so⟩
def b_less_than : Sts :=
 (.cons (.iff (.and (.cmp .eq (.ix (.var 1) (.cst (.int 0))) (.cst (.str "number"))) (.cmp .lt (.ix (.var 1) (.cst (.int 1))) (.bin .sub (.glob g_REACH) (.cst (.int 1)))))
  (.cons (.ret (.tup (.cons (.cst (.str "if")) (.cons (.var 0) (.cons (.cst (.str "<")) (.cons (.tup (.cons (.cst (.str "number")) (.cons (.bin .add (.ix (.var 1) (.cst (.int 1))) (.cst (.int 1))) .nil))) (.cons (.var 2) .nil)))))))
  .nil)
  .nil)
 (.cons (.iff (.and (.cmp .eq (.ix (.var 0) (.cst (.int 0))) (.cst (.str "number"))) (.cmp .gt (.ix (.var 0) (.cst (.int 1))) (.bin .sub (.cst (.int 0)) (.glob g_REACH))))
  (.cons (.ret (.tup (.cons (.cst (.str "if")) (.cons (.tup (.cons (.cst (.str "number")) (.cons (.bin .sub (.ix (.var 0) (.cst (.int 1))) (.cst (.int 1))) .nil))) (.cons (.cst (.str "<")) (.cons (.var 1) (.cons (.var 2) .nil)))))))
  .nil)
  .nil)
 (.cons (.ret (.tup (.cons (.cst (.str "if")) (.cons (.var 0) (.cons (.cst (.str "<=")) (.cons (.var 1) (.cons (.var 2) .nil)))))))
 .nil)))
def d_less_than : DefI := ⟨"less_than", s_less_than, ["y", "z", "t"], ["y", "z", "t"], .frz, b_less_than⟩
def w0_fakes : Sts :=
 (.cons (.app 3 (.tup (.cons (.var 4) (.cons (.mth (.var 6) [(0, f_Sign_word), (1, f_More_word), (2, f_Turn_word), (3, f_Out_word), (4, f_Swap_word), (5, f_Far_word)] "word" .nil) (.cons (.var 7) .nil)))))
 .nil)
def w1_fakes : Sts :=
 (.cons (.for (.one 7) (.val (.mth (.var 6) [(0, f_Sign_turned), (1, f_More_turned), (2, f_Turn_turned), (3, f_Out_turned), (4, f_Swap_turned), (5, f_Far_turned)] "turned" (.cons (.var 5) (.cons (.bi .len (.cons (.var 1) .nil)) .nil)))) w0_fakes [3])
 .nil)
def w2_fakes : Sts :=
 (.cons (.for (.one 6) (.val (.var 2)) w1_fakes [3])
 .nil)
def b_fakes : Sts :=
 (.cons (.set false 1 (.ix (.var 0) (.cst (.int 2))))
 (.cons (.set false 2 (.lst (.cons (.mk 0) (.cons (.mk 1) (.cons (.mk 2) (.cons (.mk 3) (.cons (.mk 4) (.cons (.mk 5) .nil))))))))
 (.cons (.set true 3 (.lst .nil))
 (.cons (.for (.many [4, 5]) (.enum (.var 1)) w2_fakes [3])
 (.cons (.ret (.bi .tuple1 (.cons (.var 3) .nil)))
 .nil)))))
def d_fakes : DefI := ⟨"fakes", s_fakes, ["program", "rows", "steps", "found", "k", "row", "step", "other"], ["program"], .new, b_fakes⟩
def b_Sign_turned : Sts :=
 (.cons (.iff (.cmp .eq (.ix (.var 1) (.cst (.int 0))) (.cst (.str "put")))
  (.cons (.ret (.tup (.cons (.cal .any f_put_at (.cons (.var 1) (.cons (.cst (.int 3)) (.cons (.cal .any f_next_sign (.cons (.ix (.var 1) (.cst (.int 3))) (.cons (.glob g_SUMS) .nil))) .nil)))) .nil)))
  .nil)
  .nil)
 (.cons (.iff (.cmp .eq (.ix (.var 1) (.cst (.int 0))) (.cst (.str "if")))
  (.cons (.ret (.tup (.cons (.cal .any f_put_at (.cons (.var 1) (.cons (.cst (.int 2)) (.cons (.cal .any f_next_sign (.cons (.ix (.var 1) (.cst (.int 2))) (.cons (.glob g_LOOKS) .nil))) .nil)))) .nil)))
  .nil)
  .nil)
 (.cons (.ret (.tup .nil))
 .nil)))
def d_Sign_turned : DefI := ⟨"Sign.turned", s_Sign_turned, ["self", "row", "many"], ["self", "row", "many"], .frz, b_Sign_turned⟩
def b_put_at : Sts :=
 (.cons (.ret (.bin .add (.bin .add (.sl (.var 0) .no (.yes (.var 1))) (.tup (.cons (.var 2) .nil))) (.sl (.var 0) (.yes (.bin .add (.var 1) (.cst (.int 1)))) .no)))
 .nil)
def d_put_at : DefI := ⟨"put_at", s_put_at, ["row", "at", "thing"], ["row", "at", "thing"], .new, b_put_at⟩
def b_next_sign : Sts :=
 (.cons (.set false 2 (.bin .add (.tix (.var 1) (.var 0)) (.cst (.int 1))))
 (.cons (.iff (.cmp .eq (.var 2) (.bi .len (.cons (.var 1) .nil)))
  (.cons (.set false 2 (.cst (.int 0)))
  .nil)
  .nil)
 (.cons (.ret (.ix (.var 1) (.var 2)))
 .nil)))
def d_next_sign : DefI := ⟨"next_sign", s_next_sign, ["sign", "ring", "at"], ["sign", "ring"], .frz, b_next_sign⟩
def w0_More_turned : Sts :=
 (.cons (.unp [5, 6] (.ix (.var 1) (.var 4)))
 (.cons (.iff (.cmp .eq (.var 5) (.cst (.str "number")))
  (.cons (.app 3 (.cal .any f_put_at (.cons (.var 1) (.cons (.var 4) (.cons (.tup (.cons (.cst (.str "number")) (.cons (.cal .any f_around (.cons (.bin .add (.var 6) (.cst (.int 1))) .nil)) .nil))) .nil)))))
  .nil)
  .nil)
 .nil))
def b_More_turned : Sts :=
 (.cons (.set true 3 (.lst .nil))
 (.cons (.for (.one 4) (.val (.cal .any f_operand_places (.cons (.var 1) .nil))) w0_More_turned [3])
 (.cons (.ret (.bi .tuple1 (.cons (.var 3) .nil)))
 .nil)))
def d_More_turned : DefI := ⟨"More.turned", s_More_turned, ["self", "row", "many", "found", "at", "kind", "number"], ["self", "row", "many"], .new, b_More_turned⟩
def b_operand_places : Sts :=
 (.cons (.iff (.cmp .eq (.ix (.var 0) (.cst (.int 0))) (.cst (.str "put")))
  (.cons (.ret (.lst (.cons (.cst (.int 2)) (.cons (.cst (.int 4)) .nil))))
  .nil)
  .nil)
 (.cons (.iff (.cmp .eq (.ix (.var 0) (.cst (.int 0))) (.cst (.str "if")))
  (.cons (.ret (.lst (.cons (.cst (.int 1)) (.cons (.cst (.int 3)) .nil))))
  .nil)
  .nil)
 (.cons (.iff (.cmp .eq (.ix (.var 0) (.cst (.int 0))) (.cst (.str "tell")))
  (.cons (.ret (.lst (.cons (.cst (.int 1)) .nil)))
  .nil)
  .nil)
 (.cons (.ret (.lst .nil))
 .nil))))
def d_operand_places : DefI := ⟨"operand_places", s_operand_places, ["row"], ["row"], .new, b_operand_places⟩
def b_Turn_turned : Sts :=
 (.cons (.iff (.cmp .ne (.ix (.var 1) (.cst (.int 0))) (.cst (.str "if")))
  (.cons (.ret (.tup .nil))
  .nil)
  .nil)
 (.cons (.ret (.tup (.cons (.cal .any f_put_at (.cons (.var 1) (.cons (.cst (.int 2)) (.cons (.ix (.glob g_CONTRARY) (.ix (.var 1) (.cst (.int 2)))) .nil)))) .nil)))
 .nil))
def d_Turn_turned : DefI := ⟨"Turn.turned", s_Turn_turned, ["self", "row", "many"], ["self", "row", "many"], .frz, b_Turn_turned⟩
def b_Out_turned : Sts :=
 (.cons (.iff (.cmp .eq (.var 1) (.tup (.cons (.cst (.str "skip")) .nil)))
  (.cons (.ret (.tup .nil))
  .nil)
  .nil)
 (.cons (.ret (.tup (.cons (.tup (.cons (.cst (.str "skip")) .nil)) .nil)))
 .nil))
def d_Out_turned : DefI := ⟨"Out.turned", s_Out_turned, ["self", "row", "many"], ["self", "row", "many"], .frz, b_Out_turned⟩
def b_Swap_turned : Sts :=
 (.cons (.set false 3 (.cal .any f_operand_places (.cons (.var 1) .nil)))
 (.cons (.iff (.or (.cmp .lt (.bi .len (.cons (.var 3) .nil)) (.cst (.int 2))) (.cmp .eq (.ix (.var 1) (.ix (.var 3) (.cst (.int 0)))) (.ix (.var 1) (.ix (.var 3) (.cst (.int 1))))))
  (.cons (.ret (.tup .nil))
  .nil)
  .nil)
 (.cons (.unp [4, 5] (.var 3))
 (.cons (.ret (.tup (.cons (.cal .any f_put_at (.cons (.cal .any f_put_at (.cons (.var 1) (.cons (.var 4) (.cons (.ix (.var 1) (.var 5)) .nil)))) (.cons (.var 5) (.cons (.ix (.var 1) (.var 4)) .nil)))) .nil)))
 .nil))))
def d_Swap_turned : DefI := ⟨"Swap.turned", s_Swap_turned, ["self", "row", "many", "places", "first", "last"], ["self", "row", "many"], .frz, b_Swap_turned⟩
def b_Far_turned : Sts :=
 (.cons (.iff (.cmp .eq (.ix (.var 1) (.cst (.int 0))) (.cst (.str "go")))
  (.cons (.set false 3 (.cst (.int 1)))
  .nil)
  (.cons (.iff (.cmp .eq (.ix (.var 1) (.cst (.int 0))) (.cst (.str "if")))
   (.cons (.set false 3 (.cst (.int 4)))
   .nil)
   (.cons (.ret (.tup .nil))
   .nil))
  .nil))
 (.cons (.iff (.cmp .eq (.ix (.var 1) (.var 3)) (.var 2))
  (.cons (.ret (.tup .nil))
  .nil)
  .nil)
 (.cons (.ret (.tup (.cons (.cal .any f_put_at (.cons (.var 1) (.cons (.var 3) (.cons (.bin .add (.ix (.var 1) (.var 3)) (.cst (.int 1))) .nil)))) .nil)))
 .nil)))
def d_Far_turned : DefI := ⟨"Far.turned", s_Far_turned, ["self", "row", "many", "at"], ["self", "row", "many"], .frz, b_Far_turned⟩
def b_Sign_word : Sts :=
 (.cons (.ret (.cst (.str "sign")))
 .nil)
def d_Sign_word : DefI := ⟨"Sign.word", s_Sign_word, ["self"], ["self"], .new, b_Sign_word⟩
def b_More_word : Sts :=
 (.cons (.ret (.cst (.str "more")))
 .nil)
def d_More_word : DefI := ⟨"More.word", s_More_word, ["self"], ["self"], .new, b_More_word⟩
def b_Turn_word : Sts :=
 (.cons (.ret (.cst (.str "turn")))
 .nil)
def d_Turn_word : DefI := ⟨"Turn.word", s_Turn_word, ["self"], ["self"], .new, b_Turn_word⟩
def b_Out_word : Sts :=
 (.cons (.ret (.cst (.str "out")))
 .nil)
def d_Out_word : DefI := ⟨"Out.word", s_Out_word, ["self"], ["self"], .new, b_Out_word⟩
def b_Swap_word : Sts :=
 (.cons (.ret (.cst (.str "swap")))
 .nil)
def d_Swap_word : DefI := ⟨"Swap.word", s_Swap_word, ["self"], ["self"], .new, b_Swap_word⟩
def b_Far_word : Sts :=
 (.cons (.ret (.cst (.str "far")))
 .nil)
def d_Far_word : DefI := ⟨"Far.word", s_Far_word, ["self"], ["self"], .new, b_Far_word⟩
def b_fake_of : Sts :=
 (.cons (.unp [3, 4, 5] (.var 0))
 (.cons (.ret (.tup (.cons (.var 3) (.cons (.var 4) (.cons (.bin .add (.bin .add (.sl (.var 5) .no (.yes (.var 1))) (.tup (.cons (.var 2) .nil))) (.sl (.var 5) (.yes (.bin .add (.var 1) (.cst (.int 1)))) .no)) .nil)))))
 .nil))
def d_fake_of : DefI := ⟨"fake_of", s_fake_of, ["program", "k", "row", "takes", "many", "rows"], ["program", "k", "row"], .frz, b_fake_of⟩
def b_l_alike : Sts :=
 (.cons (.iff (.isi (.var 1) .tuple)
  (.cons (.iff (.or (.not (.isi (.var 0) .tuple)) (.cmp .ne (.bi .len (.cons (.var 0) .nil)) (.bi .len (.cons (.var 1) .nil))))
   (.cons (.ret (.cst (.bl false)))
   .nil)
   .nil)
  (.cons (.ret (.cmp .eq (.lc (.one 2) (.rng1 (.bi .len (.cons (.var 1) .nil))) (.yes (.not (.cal .any f_l_alike (.cons (.ix (.var 0) (.var 2)) (.cons (.ix (.var 1) (.var 2)) .nil))))) (.var 2)) (.lst .nil)))
  .nil))
  .nil)
 (.cons (.iff (.isi (.var 1) .str)
  (.cons (.ret (.and (.isi (.var 0) .str) (.cmp .eq (.var 0) (.var 1))))
  .nil)
  .nil)
 (.cons (.ret (.and (.isi (.var 0) .int) (.and (.not (.isi (.var 0) .bool)) (.cmp .eq (.var 0) (.var 1)))))
 .nil)))
def d_l_alike : DefI := ⟨"_law_alike", s_l_alike, ["_law_found", "_law_due", "_law_k"], ["_law_found", "_law_due"], .frz, b_l_alike⟩
def w0_twins : Sts :=
 (.cons (.unp [7, 8, 9] (.var 5))
 (.cons (.set false 6 (.cal .any f_made_row (.cons (.var 9) (.cons (.var 7) .nil))))
 (.cons (.iff (.cmp .eq (.var 6) (.cal .any f_made_row (.cons (.ix (.var 1) (.var 7)) (.cons (.var 7) .nil))))
  (.cons (.app 2 (.var 4))
  .nil)
  (.cons (.sda 3 (.tup (.cons (.var 7) (.cons (.var 6) .nil))) (.var 4))
  .nil))
 .nil)))
def b_twins : Sts :=
 (.cons (.set false 1 (.ix (.var 0) (.cst (.int 2))))
 (.cons (.set true 2 (.lst .nil))
 (.cons (.set true 3 .dnl)
 (.cons (.for (.many [4, 5]) (.enum (.cal .any f_fakes (.cons (.var 0) .nil))) w0_twins [2, 3])
 (.cons (.ret (.tup (.cons (.bi .tuple1 (.cons (.var 2) .nil)) (.cons (.bi .tuple1 (.cons (.vlc 3 (.one 10) (.bi .tuple1 (.cons (.var 10) .nil))) .nil)) .nil))))
 .nil)))))
def d_twins : DefI := ⟨"twins", s_twins, ["program", "rows", "same", "groups", "number", "fake", "there", "k", "word", "row", "numbers"], ["program"], .frz, b_twins⟩
def w0_law : Sts :=
 (.cons (.set false 10 (.cal .any f_made (.cons (.cal .any f_fake_of (.cons (.var 1) (.cons (.var 7) (.cons (.var 9) .nil)))) .nil)))
 (.cons (.iff (.cmp .eq (.var 10) (.var 2))
  (.cons (.app 3 (.var 6))
  .nil)
  (.cons (.iff (.cmp .inn (.var 10) (.var 4))
   (.cons (.apn 5 (.lix (.var 4) (.var 10)) (.var 6))
   .nil)
   (.cons (.app 4 (.var 10))
   (.cons (.apl 5 (.lst (.cons (.var 6) .nil)))
   .nil)))
  .nil))
 (.cons (.set false 6 (.bin .add (.var 6) (.cst (.int 1))))
 .nil)))
def b_law : Sts :=
 (.cons (.set false 1 (.cal .any f_l_program (.cons (.var 0) .nil)))
 (.cons (.set false 2 (.cal .any f_made (.cons (.var 1) .nil)))
 (.cons (.set true 3 (.lst .nil))
 (.cons (.set true 4 (.lst .nil))
 (.cons (.set true 5 .nln)
 (.cons (.set false 6 (.cst (.int 0)))
 (.cons (.for (.many [7, 8, 9]) (.val (.cal .any f_fakes (.cons (.var 1) .nil))) w0_law [3, 4, 5])
 (.frz 5
 (.cons (.ret (.cal .any f_l_alike (.cons (.cal .any f_twins (.cons (.var 1) .nil)) (.cons (.tup (.cons (.bi .tuple1 (.cons (.var 3) .nil)) (.cons (.bi .tuple1 (.cons (.lc (.one 11) (.val (.var 5)) .no (.bi .tuple1 (.cons (.var 11) .nil))) .nil)) .nil))) .nil))))
 .nil)))))))))
def d_law : DefI := ⟨"law", s_law, ["_law_script", "_law_program_here", "_law_own", "_law_same", "_law_codes", "_law_groups", "_law_number", "_law_k", "_law_word", "_law_row", "_law_code", "_law_numbers"], ["_law_script"], .frz, b_law⟩
def tab : List Ent := [⟨d_l_program, []⟩, ⟨d_l_cell_at, []⟩, ⟨d_l_number_by, []⟩, ⟨d_l_row_by, []⟩, ⟨d_l_operands_by, []⟩, ⟨d_l_operand_by, []⟩, ⟨d_made, []⟩, ⟨d_made_row, []⟩, ⟨d_made_put, []⟩, ⟨d_reckon, []⟩, ⟨d_around, []⟩, ⟨d_comes_to_nought, []⟩, ⟨d_made_if, []⟩, ⟨d_is_so, []⟩, ⟨d_less_than, []⟩, ⟨d_fakes, []⟩, ⟨d_Sign_turned, []⟩, ⟨d_put_at, []⟩, ⟨d_next_sign, []⟩, ⟨d_More_turned, []⟩, ⟨d_operand_places, []⟩, ⟨d_Turn_turned, []⟩, ⟨d_Out_turned, []⟩, ⟨d_Swap_turned, []⟩, ⟨d_Far_turned, []⟩, ⟨d_Sign_word, []⟩, ⟨d_More_word, []⟩, ⟨d_Turn_word, []⟩, ⟨d_Out_word, []⟩, ⟨d_Swap_word, []⟩, ⟨d_Far_word, []⟩, ⟨d_fake_of, []⟩, ⟨d_l_alike, []⟩, ⟨d_twins, []⟩]
def gl : List Str := ["REACH", "NOUGHT", "ONE", "SUMS", "LOOKS", "CONTRARY"]
def bl : List Str := ["len", "sorted", "min", "int", "max", "range", "tuple", "enumerate", "divmod", "isinstance", "str", "bool"]
def ci : CI := ⟨["Sign", "More", "Turn", "Out", "Swap", "Far"], [(0, "turned", 16), (1, "turned", 19), (2, "turned", 21), (3, "turned", 22), (4, "turned", 23), (5, "turned", 24), (0, "word", 25), (1, "word", 26), (2, "word", 27), (3, "word", 28), (4, "word", 29), (5, "word", 30)], [], [], [], [], [], []⟩
def gv : Nat → D
  | 0 => (.int 1000000000)
  | 1 => (.tup [(.str "number"), (.int 0)])
  | 2 => (.tup [(.str "number"), (.int 1)])
  | 3 => (.gtp [(.str "+"), (.str "-"), (.str "*"), (.str "/"), (.str "mod")])
  | 4 => (.gtp [(.str "<"), (.str "<="), (.str "="), (.str ">="), (.str ">"), (.str "!=")])
  | 5 => (.gdc [((.str "<"), (.str ">=")), ((.str "<="), (.str ">")), ((.str "="), (.str "!=")), ((.str ">="), (.str "<")), ((.str ">"), (.str "<=")), ((.str "!="), (.str "="))])
  | _ => .non
@[simp] theorem gv_REACH : gv g_REACH = (.int 1000000000) := (rfl)
@[simp] theorem gv_NOUGHT : gv g_NOUGHT = (.tup [(.str "number"), (.int 0)]) := (rfl)
@[simp] theorem gv_ONE : gv g_ONE = (.tup [(.str "number"), (.int 1)]) := (rfl)
@[simp] theorem gv_SUMS : gv g_SUMS = (.gtp [(.str "+"), (.str "-"), (.str "*"), (.str "/"), (.str "mod")]) := (rfl)
@[simp] theorem gv_LOOKS : gv g_LOOKS = (.gtp [(.str "<"), (.str "<="), (.str "="), (.str ">="), (.str ">"), (.str "!=")]) := (rfl)
@[simp] theorem gv_CONTRARY : gv g_CONTRARY = (.gdc [((.str "<"), (.str ">=")), ((.str "<="), (.str ">")), ((.str "="), (.str "!=")), ((.str ">="), (.str "<")), ((.str ">"), (.str "<=")), ((.str "!="), (.str "="))]) := (rfl)
theorem at_l_program : tab[f_l_program]? = some ⟨d_l_program, []⟩ := rfl
theorem at_l_cell_at : tab[f_l_cell_at]? = some ⟨d_l_cell_at, []⟩ := rfl
theorem at_l_number_by : tab[f_l_number_by]? = some ⟨d_l_number_by, []⟩ := rfl
theorem at_l_row_by : tab[f_l_row_by]? = some ⟨d_l_row_by, []⟩ := rfl
theorem at_l_operands_by : tab[f_l_operands_by]? = some ⟨d_l_operands_by, []⟩ := rfl
theorem at_l_operand_by : tab[f_l_operand_by]? = some ⟨d_l_operand_by, []⟩ := rfl
theorem at_made : tab[f_made]? = some ⟨d_made, []⟩ := rfl
theorem at_made_row : tab[f_made_row]? = some ⟨d_made_row, []⟩ := rfl
theorem at_made_put : tab[f_made_put]? = some ⟨d_made_put, []⟩ := rfl
theorem at_reckon : tab[f_reckon]? = some ⟨d_reckon, []⟩ := rfl
theorem at_around : tab[f_around]? = some ⟨d_around, []⟩ := rfl
theorem at_comes_to_nought : tab[f_comes_to_nought]? = some ⟨d_comes_to_nought, []⟩ := rfl
theorem at_made_if : tab[f_made_if]? = some ⟨d_made_if, []⟩ := rfl
theorem at_is_so : tab[f_is_so]? = some ⟨d_is_so, []⟩ := rfl
theorem at_less_than : tab[f_less_than]? = some ⟨d_less_than, []⟩ := rfl
theorem at_fakes : tab[f_fakes]? = some ⟨d_fakes, []⟩ := rfl
theorem at_Sign_turned : tab[f_Sign_turned]? = some ⟨d_Sign_turned, []⟩ := rfl
theorem at_put_at : tab[f_put_at]? = some ⟨d_put_at, []⟩ := rfl
theorem at_next_sign : tab[f_next_sign]? = some ⟨d_next_sign, []⟩ := rfl
theorem at_More_turned : tab[f_More_turned]? = some ⟨d_More_turned, []⟩ := rfl
theorem at_operand_places : tab[f_operand_places]? = some ⟨d_operand_places, []⟩ := rfl
theorem at_Turn_turned : tab[f_Turn_turned]? = some ⟨d_Turn_turned, []⟩ := rfl
theorem at_Out_turned : tab[f_Out_turned]? = some ⟨d_Out_turned, []⟩ := rfl
theorem at_Swap_turned : tab[f_Swap_turned]? = some ⟨d_Swap_turned, []⟩ := rfl
theorem at_Far_turned : tab[f_Far_turned]? = some ⟨d_Far_turned, []⟩ := rfl
theorem at_Sign_word : tab[f_Sign_word]? = some ⟨d_Sign_word, []⟩ := rfl
theorem at_More_word : tab[f_More_word]? = some ⟨d_More_word, []⟩ := rfl
theorem at_Turn_word : tab[f_Turn_word]? = some ⟨d_Turn_word, []⟩ := rfl
theorem at_Out_word : tab[f_Out_word]? = some ⟨d_Out_word, []⟩ := rfl
theorem at_Swap_word : tab[f_Swap_word]? = some ⟨d_Swap_word, []⟩ := rfl
theorem at_Far_word : tab[f_Far_word]? = some ⟨d_Far_word, []⟩ := rfl
theorem at_fake_of : tab[f_fake_of]? = some ⟨d_fake_of, []⟩ := rfl
theorem at_l_alike : tab[f_l_alike]? = some ⟨d_l_alike, []⟩ := rfl
theorem at_twins : tab[f_twins]? = some ⟨d_twins, []⟩ := rfl
end Lw
namespace Lw
open PySem PySem.Spec PyProof.Rows L2 PV
def wfn : Nat := 30000
def lev : Nat := 16
/-! ### numbers -/
def ar (n : Int) : Int := (n + 1000000000) % 2000000000 - 1000000000
theorem ar_small (n : Int) : -1000000000 ≤ ar n ∧ ar n ≤ 999999999 := by unfold ar; omega
theorem ar_mod (n : Int) : (ar n - n) % 2000000000 = 0 := by unfold ar; omega
theorem ar_stay (n : Int) (h : -1000000000 ≤ n ∧ n ≤ 999999999) : ar n = n := by unfold ar; omega
theorem c_around (k : Nat) (n : Int) : callF tab gv wfn (k + 1) f_around [.int n] = .ok (.int (ar n)) := by
  rw [callF_at _ at_around rfl]
  simp [d_around, b_around, ar]
def rk (a : Int) (s : Str) (b : Int) : Int := if s = "+" then ar (a + b) else if s = "-" then ar (a - b) else if s = "*" then ar (a * b) else if b = 0 then (if s = "/" then 0 else a) else if s = "/" then ar (idiv a b) else imod a b
theorem c_reckon (k : Nat) (a b : Int) (s : Str) (ha : -1000000000 ≤ a ∧ a ≤ 999999999) (hb : -1000000000 ≤ b ∧ b ≤ 999999999) : callF tab gv wfn (k + 2) f_reckon [.int a, .str s, .int b] = .ok (.int (rk a s b)) := by
  rw [callF_at _ at_reckon rfl]
  have m1 : -18446744073709551616 < a := by omega
  have m2 : a < 18446744073709551616 := by omega
  have m3 : b.natAbs < 1073741824 := by omega
  by_cases h1 : s = "+"
  · simp [d_reckon, b_reckon, h1, c_around, rk]
  by_cases h2 : s = "-"
  · simp [d_reckon, b_reckon, h1, h2, c_around, rk]
  by_cases h3 : s = "*"
  · simp [d_reckon, b_reckon, h1, h2, h3, c_around, rk, m1, m2]
  by_cases h4 : b = 0
  · by_cases h5 : s = "/"
    · simp [d_reckon, b_reckon, h1, h2, h3, h4, h5, c_around, rk]
    · simp [d_reckon, b_reckon, h1, h2, h3, h4, h5, c_around, rk]
  · by_cases h5 : s = "/"
    · simp [d_reckon, b_reckon, h1, h2, h3, h4, h5, c_around, rk, m3]
    · simp [d_reckon, b_reckon, h1, h2, h3, h4, h5, c_around, rk, m3]
def so (a : Int) (s : Str) (b : Int) : Bool := if s = "<" then decide (a < b) else if s = "<=" then decide (a ≤ b) else if s = "=" then decide (a = b) else if s = ">=" then decide (b ≤ a) else if s = ">" then decide (b < a) else decide (a ≠ b)
theorem c_is_so (k : Nat) (a b : Int) (s : Str) : callF tab gv wfn (k + 1) f_is_so [.int a, .str s, .int b] = .ok (.bl (so a s b)) := by
  unfold so
  rw [callF_at _ at_is_so rfl]
  by_cases h1 : s = "<"
  · simp [d_is_so, b_is_so, h1]
  by_cases h2 : s = "<="
  · simp [d_is_so, b_is_so, h1, h2]
  by_cases h3 : s = "="
  · simp [d_is_so, b_is_so, h1, h2, h3]
  by_cases h4 : s = ">="
  · simp [d_is_so, b_is_so, h1, h2, h3, h4]
  by_cases h5 : s = ">"
  · simp [d_is_so, b_is_so, h1, h2, h3, h4, h5]
  · simp [d_is_so, b_is_so, h1, h2, h3, h4, h5]
/-! ### programs, states -/
def Small (n : Int) : Prop := -1000000000 ≤ n ∧ n ≤ 999999999
theorem rk_small (a : Int) (s : Str) (b : Int) (ha : Small a) (hb : Small b) : Small (rk a s b) := by
  unfold rk
  split
  · exact ar_small _
  split
  · exact ar_small _
  split
  · exact ar_small _
  split
  · split
    · unfold Small; omega
    · exact ha
  split
  · exact ar_small _
  · rename_i h _
    obtain ⟨_, h1, h2⟩ := dm a b h
    unfold Small at *
    rcases Int.lt_or_lt_of_ne h with q | q
    · have := h2 q; omega
    · have := h1 q; omega
inductive Opd where
  | num (n : Int) | nam (k : Nat)
  deriving DecidableEq
def Opd.d : Opd → D
  | .num n => .tup [.str "number", .int n]
  | .nam k => .tup [.str "name", .int k]
inductive Row where
  | put (x : Nat) (a : Opd) (s : Str) (b : Opd) | iff (a : Opd) (s : Str) (b : Opd) (t : Nat) | go (t : Nat) | skip | tell (a : Opd)
  deriving DecidableEq
def Row.d : Row → D
  | .put x a s b => .tup [.str "put", .int x, a.d, .str s, b.d]
  | .iff a s b t => .tup [.str "if", a.d, .str s, b.d, .int t]
  | .go t => .tup [.str "go", .int t]
  | .skip => .tup [.str "skip"]
  | .tell a => .tup [.str "tell", a.d]
structure Pgm where
  takes : List D
  many : Nat
  rows : List Row
def Pgm.d (p : Pgm) : D := .tup [.tup p.takes, .int p.many, .tup (p.rows.map Row.d)]
inductive Sta where
  | at (k : Nat) (vs : List Int) | told (v : Int) | none | late
  deriving DecidableEq
def il (l : List Int) : List D := l.map D.int
@[simp] theorem il_length (l : List Int) : (il l).length = l.length := by simp [il]
theorem il_set (l : List Int) (x : Nat) (n : Int) : (il l).set x (.int n) = il (l.set x n) := by simp [il, List.map_set]
theorem il_ok (n : Nat) (l : List Int) : (il l).all (okN n) = true := by simp [il]
def Sta.d : Sta → D
  | .at k vs => .tup [.int k, .tup (il vs)]
  | .told v => .tup [.str "told", .int v]
  | .none => .tup [.str "none"]
  | .late => .tup [.str "late"]
def worth (o : Opd) (vs : List Int) : Int := match o with
  | .num n => n
  | .nam k => vs.getD k 0
def moved (p : Pgm) (k : Nat) (vs : List Int) : Sta := match p.rows[k]? with
  | .none => .none
  | .some (.tell a) => .told (worth a vs)
  | .some (.put x a s b) => .at (k + 1) (vs.set x (rk (worth a vs) s (worth b vs)))
  | .some (.go t) => .at t vs
  | .some (.iff a s b t) => if so (worth a vs) s (worth b vs) then .at t vs else .at (k + 1) vs
  | .some .skip => .at (k + 1) vs
def OkO (m : Nat) : Opd → Prop
  | .num n => Small n
  | .nam k => k < m
def sums : List Str := ["+", "-", "*", "/", "mod"]
def looks : List Str := ["<", "<=", "=", ">=", ">", "!="]
def OkR (m l : Nat) : Row → Prop
  | .put x a s b => x < m ∧ OkO m a ∧ OkO m b ∧ s ∈ sums
  | .iff a s b t => OkO m a ∧ OkO m b ∧ t ≤ l ∧ s ∈ looks
  | .go t => t ≤ l
  | .skip => True
  | .tell a => OkO m a
structure OkP (p : Pgm) : Prop where
  rows : ∀ r ∈ p.rows, OkR p.many p.rows.length r
  len : p.rows.length < 1000
structure OkS (p : Pgm) (k : Nat) (vs : List Int) : Prop where
  k : k ≤ p.rows.length
  len : vs.length = p.many
  small : ∀ v ∈ vs, Small v
theorem worth_small {p : Pgm} {k : Nat} {vs : List Int} {o : Opd} (h : OkS p k vs) (ho : OkO p.many o) : Small (worth o vs) := by
  cases o with
  | num n => exact ho
  | nam j =>
    have hj : j < vs.length := by rw [h.len]; exact ho
    show Small (vs.getD j 0)
    rw [List.getD_eq_getElem?_getD, List.getElem?_eq_getElem hj]
    exact h.small _ (List.getElem_mem hj)
theorem moved_ok {p : Pgm} (hp : OkP p) {k : Nat} {vs : List Int} (h : OkS p k vs) {k' : Nat} {vs' : List Int} (e : moved p k vs = .at k' vs') : OkS p k' vs' := by
  unfold moved at e
  split at e
  · cases e
  · cases e
  · rename_i x a s b hr
    have hr' := hp.rows _ (List.mem_of_getElem? hr)
    have hk : k < p.rows.length := (List.getElem?_eq_some_iff.mp hr).1
    cases e
    refine ⟨hk, by rw [List.length_set, h.len], fun v hv => ?_⟩
    rcases List.mem_or_eq_of_mem_set hv with hv | rfl
    · exact h.small v hv
    · exact rk_small _ _ _ (worth_small h hr'.2.1) (worth_small h hr'.2.2.1)
  · rename_i t hr
    cases e
    exact ⟨hp.rows _ (List.mem_of_getElem? hr), h.len, h.small⟩
  · rename_i a s b t hr
    have hr' := hp.rows _ (List.mem_of_getElem? hr)
    have hk : k < p.rows.length := (List.getElem?_eq_some_iff.mp hr).1
    split at e <;> cases e
    · exact ⟨hr'.2.2.1, h.len, h.small⟩
    · exact ⟨hk, h.len, h.small⟩
  · rename_i hr
    have hk : k < p.rows.length := (List.getElem?_eq_some_iff.mp hr).1
    cases e
    exact ⟨hk, h.len, h.small⟩
theorem moved_late (p : Pgm) (k : Nat) (vs : List Int) : moved p k vs ≠ .late := by
  unfold moved
  split <;> try (intro h; cases h; done)
  split <;> (intro h; cases h)
/-! ### made rows -/
def doneR (r : Row) (k : Nat) (vs : List Int) : Sta := match r with
  | .tell a => .told (worth a vs)
  | .put x a s b => .at (k + 1) (vs.set x (rk (worth a vs) s (worth b vs)))
  | .go t => .at t vs
  | .iff a s b t => if so (worth a vs) s (worth b vs) then .at t vs else .at (k + 1) vs
  | .skip => .at (k + 1) vs
def ltO : Opd → Opd → Bool
  | .nam i, .nam j => decide (i < j)
  | .num i, .num j => decide (i < j)
  | .nam _, .num _ => true
  | .num _, .nam _ => false
def nou (y : Opd) (s : Str) (z : Opd) : Bool := if s = "*" then decide (z = .num 0) else if s = "mod" then decide (z = .num 1) else decide (s = "-") && decide (y = z)
/-- the two ends of a put's making -/
def mputC (x : Nat) (y : Opd) (s : Str) (z : Opd) : Row := if decide (y = .nam x) && (decide (s = "+") && decide (z = .num 0)) then .skip else .put x y s z
def mputB (x : Nat) (y : Opd) (s : Str) (z : Opd) : Row := if nou y s z then .put x (.num 0) "+" (.num 0) else if (decide (s = "*") || decide (s = "/")) && decide (z = .num 1) then mputC x y "+" (.num 0) else mputC x y s z
def mputA (x : Nat) (y : Opd) (s : Str) (z : Opd) : Row := if (decide (s = "+") || decide (s = "*")) && ltO z y then mputB x z s y else mputB x y s z
def mput (x : Nat) (y : Opd) (s : Str) (z : Opd) : Row := match y, z with
  | .num a, .num b => .put x (.num (rk a s b)) "+" (.num 0)
  | _, .num b => if s = "-" then mputA x y "+" (.num (ar (0 - b))) else mputA x y s z
  | _, _ => mputA x y s z
def mle (y z : Opd) (t : Nat) : Row := match z with
  | .num n => if n < 999999999 then .iff y "<" (.num (n + 1)) t else (match y with | .num m => if -1000000000 < m then .iff (.num (m - 1)) "<" z t else .iff y "<=" z t | _ => .iff y "<=" z t)
  | _ => match y with | .num m => if -1000000000 < m then .iff (.num (m - 1)) "<" z t else .iff y "<=" z t | _ => .iff y "<=" z t
def Opd.v : Opd → Int
  | .num n => n
  | .nam k => k
def Opd.isN : Opd → Bool
  | .num _ => true
  | .nam _ => false
def mifB (y : Opd) (s : Str) (z : Opd) (t : Nat) : Row := if s = "<=" then mle y z t else .iff y s z t
def mifA (y : Opd) (s : Str) (z : Opd) (t : Nat) : Row :=
  if decide (y = z) || (y.isN && z.isN) then (if so y.v s z.v then .go t else .skip)
  else if (decide (s = "=") || decide (s = "!=")) && ltO z y then mifB z s y t else mifB y s z t
def mif (y : Opd) (s : Str) (z : Opd) (t : Nat) : Row := if s = ">" then mifA z "<" y t else if s = ">=" then mifA z "<=" y t else mifA y s z t
def mrow (r : Row) (k : Nat) : Row := match r with
  | .put x y s z => mput x y s z
  | .iff y s z t => if t = k + 1 then .skip else mif y s z t
  | .go t => if t = k + 1 then .skip else .go t
  | .skip => .skip
  | .tell a => .tell a
theorem okNum : PyData.strOk "number" = true := by decide +kernel
theorem okNam : PyData.strOk "name" = true := by decide +kernel
theorem neNN : ¬ (("number" : Str) = "name") := by decide +kernel
theorem ltNN : (("name" : Str).cps.toList < ("number" : Str).cps.toList) := by decide +kernel
theorem ltNN' : ¬ (("number" : Str).cps.toList < ("name" : Str).cps.toList) := by decide +kernel
theorem okO (n : Nat) (o : Opd) : okN (n + 1) o.d = true := by cases o <;> simp [Opd.d, okNum, okNam]
theorem eqO (a b : Opd) : dCmp .eq a.d b.d = .ok (.bl (decide (a = b))) := by
  cases a <;> cases b <;> simp [Opd.d, Int.natCast_inj, cmp_eqT, okNum, okNam]
theorem ltOD (a b : Opd) : dCmp .lt a.d b.d = .ok (.bl (ltO a b)) := by
  cases a <;> cases b <;> rename_i i j <;> simp only [Opd.d, ltO, dCmp, cmpAll, PV.lexLt, if_true, if_neg neNN, if_neg (Ne.symm neNN), ltNN, ltNN', decide_true, decide_false]
  · by_cases h : i = j <;> simp [h, PV.lexLt]
  · by_cases h : (i : Int) = j
    · have : i = j := by omega
      simp [this, PV.lexLt]
    · simp [h]
theorem ixO0 (o : Opd) : dIx o.d (.int 0) = .ok (.str (if o.isN then "number" else "name")) := by cases o <;> simp [Opd.d, Opd.isN]
theorem ixO1 (o : Opd) : dIx o.d (.int 1) = .ok (.int o.v) := by cases o <;> simp [Opd.d, Opd.v]
theorem c_nought (k : Nat) (y z : Opd) (s : Str) : callF tab gv wfn (k + 1) f_comes_to_nought [y.d, .str s, z.d] = .ok (.bl (nou y s z)) := by
  rw [callF_at _ at_comes_to_nought rfl]
  have e0 : dCmp .eq z.d (.tup [.str "number", .int 0]) = _ := eqO z (.num 0)
  have e1 : dCmp .eq z.d (.tup [.str "number", .int 1]) = _ := eqO z (.num 1)
  have e2 := eqO y z
  by_cases h1 : s = "*"
  · simp [d_comes_to_nought, b_comes_to_nought, nou, h1, e0]
  by_cases h2 : s = "mod"
  · simp [d_comes_to_nought, b_comes_to_nought, nou, h1, h2, e1]
  by_cases h3 : s = "-"
  · simp [d_comes_to_nought, b_comes_to_nought, nou, h1, h2, h3, e2]
  · simp [d_comes_to_nought, b_comes_to_nought, nou, h1, h2, h3, e2]
theorem eqX (y : Opd) (x : Nat) : dCmp .eq y.d (.tup [.str "name", .int x]) = .ok (.bl (decide (y = .nam x))) := eqO y (.nam x)
theorem inT2 (s a b : Str) : dCmp .inn (.str s) (.tup [.str a, .str b]) = .ok (.bl (decide (s = a) || decide (s = b))) := by
  rw [show dCmp .inn (.str s) (.tup [.str a, .str b]) = (if flatD (.str s) && [D.str a, D.str b].all flatD then .ok (.bl (dIn (.str s) [.str a, .str b])) else .st) from rfl, if_pos (by rfl)]
  have h : ∀ a : Str, (a == s) = decide (s = a) := fun a => by rw [Bool.eq_iff_iff, beq_iff_eq, decide_eq_true_eq]; exact eq_comm
  simp only [dIn, D.eqv, List.any_cons, List.any_nil, Bool.or_false, h]
theorem put_d (x : Nat) (y : Opd) (s : Str) (z : Opd) : (Row.put x y s z).d = .tup [.str "put", .int x, y.d, .str s, z.d] := (rfl)
theorem num_d (n : Int) : (Opd.num n).d = .tup [.str "number", .int n] := (rfl)
theorem nam_d (n : Nat) : (Opd.nam n).d = .tup [.str "name", .int n] := (rfl)
theorem skip_d : Row.skip.d = .tup [.str "skip"] := (rfl)
theorem sums_of {s : Str} (h : s ∈ sums) : s = "+" ∨ s = "-" ∨ s = "*" ∨ s = "/" ∨ s = "mod" := by simpa [sums] using h
theorem looks_of {s : Str} (h : s ∈ looks) : s = "<" ∨ s = "<=" ∨ s = "=" ∨ s = ">=" ∨ s = ">" ∨ s = "!=" := by simpa [looks] using h
def w1_made_put : Sts := match b_made_put with
  | .cons _ (.cons _ (.cons _ r)) => r
  | _ => .nil
theorem put_end (k : Nat) (x : Nat) (y : Opd) (s : Str) (z : Opd) (h : s ∈ sums) : exB ⟨callF tab gv wfn (k + 1), gv, wfn⟩ w1_made_put [some (.int x), some y.d, some (.str s), some z.d] = .ok (.rt (mputB x y s z).d) := by
  have e0 : dCmp .eq z.d (.tup [.str "number", .int 0]) = _ := eqO z (.num 0)
  have e1 : dCmp .eq z.d (.tup [.str "number", .int 1]) = _ := eqO z (.num 1)
  have e2 := eqX y x
  have e3 := c_nought k y z s
  simp only [w1_made_put, b_made_put]
  unfold mputB mputC
  generalize nou y s z = N at *
  generalize decide (z = .num 0) = A at *
  generalize decide (z = .num 1) = B at *
  generalize decide (y = .nam x) = C at *
  cases N with
  | true => simp [e3, put_d, num_d]
  | false =>
    rcases sums_of h with rfl | rfl | rfl | rfl | rfl <;> cases A <;> cases B <;> cases C <;> simp [e3, e0, e1, e2, put_d, num_d, skip_d, okNum, cmp_eqT, inT2]
theorem put_mid (k : Nat) (x : Nat) (y : Opd) (s : Str) (z : Opd) (h : s ∈ sums) (b : Sts) (hb : b = (match b_made_put with | .cons _ (.cons _ r) => r | _ => .nil)) : exB ⟨callF tab gv wfn (k + 1), gv, wfn⟩ b [some (.int x), some y.d, some (.str s), some z.d] = .ok (.rt (mputA x y s z).d) := by
  have e1 := put_end k x y s z h
  have e2 := put_end k x z s y h
  simp only [w1_made_put, b_made_put] at e1 e2
  have lt := ltOD z y
  subst hb
  simp only [b_made_put]
  unfold mputA
  generalize hr : Sts.cons (.iff (.cal .any f_comes_to_nought _) _ _) _ = R at e1 e2
  cases q : ltO z y <;> rw [q] at lt <;> rcases sums_of h with rfl | rfl | rfl | rfl | rfl <;> simp [inT2, lt, e1, e2]
theorem c_made_put (k : Nat) (x : Nat) (y : Opd) (s : Str) (z : Opd) (h : s ∈ sums) (hy : y.isN = true → Small y.v) (hz : z.isN = true → Small z.v) : callF tab gv wfn (k + 3) f_made_put [.int x, y.d, .str s, z.d] = .ok (mput x y s z).d := by
  rw [callF_at _ at_made_put rfl]
  have e := fun y s z h => put_mid (k + 1) x y s z h _ rfl
  have hp : ("+" : Str) ∈ sums := by simp [sums]
  simp only [b_made_put] at e
  simp only [d_made_put, b_made_put]
  generalize Sts.cons (.iff (.and (.cmp .inn (.var 2) (.tup (.cons (.cst (.str "+")) _))) _) _ _) _ = R at e
  cases y with
  | num a =>
    cases z with
    | num b =>
      have r := c_reckon k a b s (hy rfl) (hz rfl)
      simp [num_d, mput, put_d, r]
    | nam j =>
      have e := e (.num a) s (.nam j) h
      simp only [num_d, nam_d] at e
      rcases sums_of h with rfl | rfl | rfl | rfl | rfl <;> simp [num_d, nam_d, mput, e]
  | nam i =>
    cases z with
    | num b =>
      have ca := c_around (k + 1) (0 - b)
      have e1 := e (.nam i) s (.num b) h
      have e2 := e (.nam i) "+" (.num (ar (0 - b))) hp
      simp only [num_d, nam_d] at e1 e2
      simp only [Int.zero_sub] at ca e2
      rcases sums_of h with rfl | rfl | rfl | rfl | rfl <;> simp [num_d, nam_d, mput, ca, e1, e2]
    | nam j =>
      have e := e (.nam i) s (.nam j) h
      simp only [nam_d] at e
      rcases sums_of h with rfl | rfl | rfl | rfl | rfl <;> simp [nam_d, mput, e]
theorem iff_d (y : Opd) (s : Str) (z : Opd) (t : Nat) : (Row.iff y s z t).d = .tup [.str "if", y.d, .str s, z.d, .int t] := (rfl)
theorem go_d (t : Nat) : (Row.go t).d = .tup [.str "go", .int t] := (rfl)
theorem c_less_than (k : Nat) (y z : Opd) (t : Nat) : callF tab gv wfn (k + 1) f_less_than [y.d, z.d, .int t] = .ok (mle y z t).d := by
  rw [callF_at _ at_less_than rfl]
  cases y with
  | num a =>
    cases z with
    | num b =>
      by_cases h1 : b < 999999999 <;> by_cases h2 : -1000000000 < a <;> simp [d_less_than, b_less_than, num_d, iff_d, mle, h1, h2]
    | nam j => by_cases h2 : -1000000000 < a <;> simp [d_less_than, b_less_than, num_d, nam_d, iff_d, mle, h2]
  | nam i =>
    cases z with
    | num b => by_cases h1 : b < 999999999 <;> simp [d_less_than, b_less_than, num_d, nam_d, iff_d, mle, h1]
    | nam j => simp [d_less_than, b_less_than, num_d, nam_d, iff_d, mle]
theorem if_end (k : Nat) (y : Opd) (s : Str) (z : Opd) (t : Nat) (h : s = "<=" ∨ s ≠ "<=") : exB ⟨callF tab gv wfn (k + 1), gv, wfn⟩ (match b_made_if with | .cons _ (.cons _ (.cons _ r)) => r | _ => .nil) [some y.d, some (.str s), some z.d, some (.int t)] = .ok (.rt (mifB y s z t).d) := by
  have e := c_less_than k y z t
  simp only [b_made_if]
  unfold mifB
  by_cases q : s = "<="
  · subst q; simp [e]
  · simp [q, iff_d]
theorem if_mid (k : Nat) (y : Opd) (s : Str) (z : Opd) (t : Nat) (h : s ∈ looks) : exB ⟨callF tab gv wfn (k + 1), gv, wfn⟩ (match b_made_if with | .cons _ r => r | _ => .nil) [some y.d, some (.str s), some z.d, some (.int t)] = .ok (.rt (mifA y s z t).d) := by
  have e1 := if_end k y s z t (Classical.em _)
  have e2 := if_end k z s y t (Classical.em _)
  have lt := ltOD z y
  have eq := eqO y z
  have cs := c_is_so k y.v z.v s
  simp only [b_made_if] at e1 e2 ⊢
  unfold mifA
  generalize Sts.cons (.iff (.cmp .eq (.var 1) (.cst (.str "<="))) _ _) _ = R at e1 e2
  generalize decide (y = z) = A at *
  generalize so y.v s z.v = B at *
  generalize ltO z y = C at *
  have n1 : (D.str (if y.isN = true then "number" else "name")) = .str (if y.isN = true then "number" else "name") := rfl
  cases A with
  | true => cases B <;> simp [eq, ixO1, cs, go_d, skip_d]
  | false =>
    cases hy : y.isN <;> cases hz : z.isN <;> cases B <;> cases C <;> rcases looks_of h with rfl | rfl | rfl | rfl | rfl | rfl <;> simp [eq, ixO0, ixO1, hy, hz, cs, lt, inT2, go_d, skip_d, e1, e2]
theorem c_made_if (k : Nat) (y : Opd) (s : Str) (z : Opd) (t : Nat) (h : s ∈ looks) : callF tab gv wfn (k + 2) f_made_if [y.d, .str s, z.d, .int t] = .ok (mif y s z t).d := by
  rw [callF_at _ at_made_if rfl]
  have e := fun y s z h => if_mid k y s z t h
  have h1 : ("<" : Str) ∈ looks := by simp [looks]
  have h2 : ("<=" : Str) ∈ looks := by simp [looks]
  have e0 := e y s z h
  have e1 := e z "<" y h1
  have e2 := e z "<=" y h2
  simp only [b_made_if] at e0 e1 e2
  simp only [d_made_if, b_made_if]
  generalize Sts.cons (.iff (.or (.cmp .eq (.var 0) (.var 2)) _) _ _) _ = R at e0 e1 e2
  rcases looks_of h with rfl | rfl | rfl | rfl | rfl | rfl <;> simp [inT2, e0, e1, e2, mif, dIx, dFind, okK, isK, Cst.d, dPut, D.eqv]
theorem okGo : PyData.strOk "go" = true := by decide +kernel
theorem okSkip : PyData.strOk "skip" = true := by decide +kernel
theorem okTell : PyData.strOk "tell" = true := by decide +kernel
theorem okPut : PyData.strOk "put" = true := by decide +kernel
theorem okIf : PyData.strOk "if" = true := by decide +kernel
theorem c_made_row (k : Nat) (m l : Nat) (r : Row) (p : Nat) (h : OkR m l r) : callF tab gv wfn (k + 4) f_made_row [r.d, .int p] = .ok (mrow r p).d := by
  rw [callF_at _ at_made_row rfl]
  cases r with
  | put x y s z =>
    have e := c_made_put k x y s z h.2.2.2 (by cases y <;> first | exact fun _ => h.2.1 | exact fun z => nomatch z) (by cases z <;> first | exact fun _ => h.2.2.1 | exact fun z => nomatch z)
    simp [d_made_row, b_made_row, put_d, mrow, e]
  | iff y s z t =>
    have e := c_made_if (k + 1) y s z t h.2.2.2
    by_cases q : (t : Int) = (p : Int) + 1
    · have q' : t = p + 1 := by omega
      simp [d_made_row, b_made_row, iff_d, mrow, q, q', skip_d]
    · have q' : ¬ t = p + 1 := by omega
      simp [d_made_row, b_made_row, iff_d, mrow, q, q', e]
  | go t =>
    by_cases q : (t : Int) = (p : Int) + 1
    · have q' : t = p + 1 := by omega
      simp [d_made_row, b_made_row, go_d, mrow, q, q', skip_d, cmp_eqT, okGo]
    · have q' : ¬ t = p + 1 := by omega
      simp [d_made_row, b_made_row, go_d, mrow, q, q', cmp_eqT, okGo]
  | skip => simp [d_made_row, b_made_row, skip_d, mrow, cmp_eqT, okGo, okSkip]
  | tell a => simp [d_made_row, b_made_row, Row.d, mrow, cmp_eqT, okGo, okTell, okO]
end Lw
namespace Lw
open PySem PySem.Spec PyProof.Rows L2 PV
theorem nE_of {x : Rs Fl} {d : D} (h : (x >>= onR) = .ok d) : (nE x >>= onR) = .ok d := by
  cases x with
  | ok f => exact h
  | st => cases h
  | er c n => cases h
theorem ix_sums (i : Int) : ∃ s, s ∈ sums ∧ dIx (.lst [.str "+", .str "-", .str "*", .str "/", .str "mod"]) (.int (i % 5)) = .ok (.str s) := by
  obtain ⟨w, hw, h⟩ : ∃ w, i % 5 = w ∧ (w = 0 ∨ w = 1 ∨ w = 2 ∨ w = 3 ∨ w = 4) := ⟨_, rfl, by omega⟩
  rw [hw]
  rcases h with rfl | rfl | rfl | rfl | rfl
  · exact ⟨"+", by simp [sums], by simp⟩
  · exact ⟨"-", by simp [sums], by simp⟩
  · exact ⟨"*", by simp [sums], by simp⟩
  · exact ⟨"/", by simp [sums], by simp⟩
  · exact ⟨"mod", by simp [sums], by simp⟩
theorem ix_looks (i : Int) : ∃ s, s ∈ looks ∧ dIx (.lst [.str "<", .str "<=", .str "=", .str ">=", .str ">", .str "!="]) (.int (i % 6)) = .ok (.str s) := by
  obtain ⟨w, hw, h⟩ : ∃ w, i % 6 = w ∧ (w = 0 ∨ w = 1 ∨ w = 2 ∨ w = 3 ∨ w = 4 ∨ w = 5) := ⟨_, rfl, by omega⟩
  rw [hw]
  rcases h with rfl | rfl | rfl | rfl | rfl | rfl
  · exact ⟨"<", by simp [looks], by simp⟩
  · exact ⟨"<=", by simp [looks], by simp⟩
  · exact ⟨"=", by simp [looks], by simp⟩
  · exact ⟨">=", by simp [looks], by simp⟩
  · exact ⟨">", by simp [looks], by simp⟩
  · exact ⟨"!=", by simp [looks], by simp⟩
/-! ### rows drawn -/
theorem c_number_by (k : Nat) (c : Int) : ∃ n : Int, Small n ∧ callF tab gv wfn (k + 1) f_l_number_by [.int c] = .ok (.int n) := by
  rw [callF_at _ at_l_number_by rfl]
  unfold Small
  by_cases h : c % 3 = 0
  · obtain ⟨w, hw, h8⟩ : ∃ w, c / 3 % 8 = w ∧ (w = 0 ∨ w = 1 ∨ w = 2 ∨ w = 3 ∨ w = 4 ∨ w = 5 ∨ w = 6 ∨ w = 7) := ⟨_, rfl, by omega⟩
    rcases h8 with rfl | rfl | rfl | rfl | rfl | rfl | rfl | rfl
    · exact ⟨-1000000000, by decide, by simp [d_l_number_by, b_l_number_by, h, hw]⟩
    · exact ⟨999999999, by decide, by simp [d_l_number_by, b_l_number_by, h, hw]⟩
    · exact ⟨-1, by decide, by simp [d_l_number_by, b_l_number_by, h, hw]⟩
    · exact ⟨0, by decide, by simp [d_l_number_by, b_l_number_by, h, hw]⟩
    · exact ⟨1, by decide, by simp [d_l_number_by, b_l_number_by, h, hw]⟩
    · exact ⟨2, by decide, by simp [d_l_number_by, b_l_number_by, h, hw]⟩
    · exact ⟨-999999999, by decide, by simp [d_l_number_by, b_l_number_by, h, hw]⟩
    · exact ⟨999999998, by decide, by simp [d_l_number_by, b_l_number_by, h, hw]⟩
  · exact ⟨c / 3 * 48271 % 2000000000 - 1000000000, by omega, by simp [d_l_number_by, b_l_number_by, h]⟩
theorem c_operand_by (k : Nat) (n : Int) (m : Nat) (hm : m ≤ 60) : ∃ o : Opd, OkO m o ∧ callF tab gv wfn (k + 2) f_l_operand_by [.int n, .int m] = .ok o.d := by
  rw [callF_at _ at_l_operand_by rfl]
  obtain ⟨a, ha, ea⟩ := c_number_by k (n / 5)
  by_cases h : 0 < m
  · by_cases h' : n % 5 < 3
    · obtain ⟨j, hj⟩ : ∃ j : Nat, (j : Int) = n / 5 % (m : Int) := ⟨(n / 5 % (m : Int)).toNat, by have := Int.emod_nonneg (n / 5) (b := (m : Int)) (by omega); omega⟩
      have lj : j < m := by have := Int.emod_lt_of_pos (n / 5) (b := (m : Int)) (by omega); omega
      have m1 := bin_mod (n / 5) (m : Int) (by omega)
      exact ⟨.nam j, lj, by simp [d_l_operand_by, b_l_operand_by, h, h', m1, ← hj, Opd.d]⟩
    · exact ⟨.num a, ha, by simp [d_l_operand_by, b_l_operand_by, h, h', ea, Opd.d]⟩
  · exact ⟨.num a, ha, by simp [d_l_operand_by, b_l_operand_by, h, ea, Opd.d]⟩
theorem c_operands_by (k : Nat) (c0 c1 c2 c3 : Int) (m : Nat) (hm : m ≤ 60) : ∃ y z : Opd, OkO m y ∧ OkO m z ∧ callF tab gv wfn (k + 3) f_l_operands_by [.lst [.int c0, .int c1, .int c2, .int c3], .int m] = .ok (.tup [y.d, z.d]) := by
  rw [callF_at _ at_l_operands_by rfl]
  obtain ⟨y, hy, ey⟩ := c_operand_by k c1 m hm
  obtain ⟨z, hz, ez⟩ := c_operand_by k c2 m hm
  have s2 : ∀ c : Int, Small (c % 2) := fun c => by unfold Small; omega
  obtain ⟨w, hw, h⟩ : ∃ w, c3 / 65 % 6 = w ∧ (w = 0 ∨ w = 1 ∨ w = 2 ∨ w = 3 ∨ w = 4 ∨ w = 5) := ⟨_, rfl, by omega⟩
  rcases h with rfl | rfl | rfl | rfl | rfl | rfl
  · exact ⟨y, z, hy, hz, by simp [d_l_operands_by, b_l_operands_by, ey, ez, hw]⟩
  · exact ⟨y, y, hy, hy, by simp [d_l_operands_by, b_l_operands_by, ey, ez, hw]⟩
  · exact ⟨y, z, hy, hz, by simp [d_l_operands_by, b_l_operands_by, ey, ez, hw]⟩
  · by_cases h : 0 < m
    · obtain ⟨j, hj⟩ : ∃ j : Nat, (j : Int) = c3 % 5 % (m : Int) := ⟨(c3 % 5 % (m : Int)).toNat, by have := Int.emod_nonneg (c3 % 5) (b := (m : Int)) (by omega); omega⟩
      have lj : j < m := by have := Int.emod_lt_of_pos (c3 % 5) (b := (m : Int)) (by omega); omega
      have m1 := bin_mod (c3 % 5) (m : Int) (by omega)
      exact ⟨.nam j, .num (c2 % 2), lj, s2 c2, by simp [d_l_operands_by, b_l_operands_by, ey, ez, hw, h, m1, ← hj, Opd.d]⟩
    · exact ⟨y, z, hy, hz, by simp [d_l_operands_by, b_l_operands_by, ey, ez, hw, h]⟩
  · exact ⟨y, .num (c2 % 2), hy, s2 c2, by simp [d_l_operands_by, b_l_operands_by, ey, ez, hw, Opd.d]⟩
  · exact ⟨.num (c1 % 2), z, s2 c1, hz, by simp [d_l_operands_by, b_l_operands_by, ey, ez, hw, Opd.d]⟩
theorem c_row_by (k : Nat) (c0 c1 c2 c3 : Int) (m l p : Nat) (hm : m ≤ 60) (hl : l ≤ 1000) (hp : p < l) : ∃ r : Row, OkR m l r ∧ callF tab gv wfn (k + 4) f_l_row_by [.lst [.int c0, .int c1, .int c2, .int c3], .int m, .int l, .int p] = .ok r.d := by
  rw [callF_at _ at_l_row_by rfl]
  obtain ⟨y, z, hy, hz, eo⟩ := c_operands_by k c0 c1 c2 c3 m hm
  obtain ⟨s1, hs1, es1⟩ := ix_sums (c0 / 8)
  obtain ⟨s2, hs2, es2⟩ := ix_looks (c0 / 8)
  have m0 := bin_mod (c3 / 5) ((l : Int) + 1) (by omega)
  obtain ⟨t, ht, et⟩ : ∃ t : Nat, t ≤ l ∧ (if c3 / 65 % 6 = 2 then (p : Int) + 1 else c3 / 5 % ((l : Int) + 1)) = t := by
    have h1 := Int.emod_nonneg (c3 / 5) (b := (l : Int) + 1) (by omega)
    have h2 := Int.emod_lt_of_pos (c3 / 5) (b := (l : Int) + 1) (by omega)
    by_cases q : c3 / 65 % 6 = 2
    · exact ⟨p + 1, hp, by rw [if_pos q]; omega⟩
    · exact ⟨(c3 / 5 % ((l : Int) + 1)).toNat, by omega, by rw [if_neg q]; omega⟩
  have fin : ∀ r : Row, exB ⟨callF tab gv wfn (k + 3), gv, wfn⟩ (match b_l_row_by with | .cons _ (.cons _ (.cons _ b)) => b | _ => .nil) [some (.lst [.int c0, .int c1, .int c2, .int c3]), some (.int m), some (.int l), some (.int p), some (.int t), none, some y.d, some z.d] = .ok (.rt r.d) →
      (exB ⟨callF tab gv wfn (k + 3), gv, wfn⟩ b_l_row_by [some (.lst [.int c0, .int c1, .int c2, .int c3]), some (.int m), some (.int l), some (.int p), none, none, none, none] >>= onR) = .ok r.d := by
    intro r e
    simp only [b_l_row_by] at e ⊢
    generalize Sts.cons (.set false 5 _) _ = R at e
    by_cases q : c3 / 65 % 6 = 2
    · rw [if_pos q] at et
      simp [eo, m0, q, et, e]
    · rw [if_neg q] at et
      simp [eo, m0, q, et, e]
  by_cases h1 : c0 % 8 < 3 ∧ 0 < m
  · obtain ⟨h1, h2⟩ := h1
    have m1 := bin_mod (c3 % 5) (m : Int) (by omega)
    obtain ⟨x, hx⟩ : ∃ x : Nat, (x : Int) = c3 % 5 % (m : Int) := ⟨(c3 % 5 % (m : Int)).toNat, by have := Int.emod_nonneg (c3 % 5) (b := (m : Int)) (by omega); omega⟩
    have lx : x < m := by have := Int.emod_lt_of_pos (c3 % 5) (b := (m : Int)) (by omega); omega
    exact ⟨.put x y s1 z, ⟨lx, hy, hz, hs1⟩, nE_of (fin _ (by simp [b_l_row_by, h1, h2, m1, ← hx, es1, Row.d]))⟩
  · by_cases h2 : c0 % 8 < 5
    · refine ⟨.iff y s2 z t, ⟨hy, hz, ht, hs2⟩, nE_of (fin _ ?_)⟩
      by_cases h3 : c0 % 8 < 3
      · have h4 : ¬ 0 < m := fun w => h1 ⟨h3, w⟩
        simp [b_l_row_by, h2, h3, h4, es2, Row.d]
      · simp [b_l_row_by, h2, h3, es2, Row.d]
    · have h3 : ¬ c0 % 8 < 3 := by omega
      by_cases h4 : c0 % 8 = 5
      · exact ⟨.go t, ht, nE_of (fin _ (by simp [b_l_row_by, h4, Row.d]))⟩
      · by_cases h5 : c0 % 8 = 6
        · exact ⟨.tell y, hy, nE_of (fin _ (by simp [b_l_row_by, h5, Row.d]))⟩
        · exact ⟨.skip, trivial, nE_of (fin _ (by simp [b_l_row_by, h2, h3, h4, h5, Row.d]))⟩
theorem c_cell_at (k : Nat) (ns : List Int) (i : Nat) : ∃ c : Int, callF tab gv wfn (k + 1) f_l_cell_at [.lst (ns.map D.int), .int i] = .ok (.int c) := by
  rw [callF_at _ at_l_cell_at rfl]
  by_cases h : i < ns.length
  · exact ⟨ns[i], by simp [d_l_cell_at, b_l_cell_at, h]⟩
  · exact ⟨0, by simp [d_l_cell_at, b_l_cell_at, h]⟩
end Lw
namespace Lw
open PySem PySem.Spec PyProof.Rows L2 PV
/-! ### made rows do the same -/
structure OkV (m : Nat) (vs : List Int) : Prop where
  len : vs.length = m
  small : ∀ v ∈ vs, Small v
theorem OkV.worth {m : Nat} {vs : List Int} {o : Opd} (h : OkV m vs) (ho : OkO m o) : Small (worth o vs) := by
  cases o with
  | num n => exact ho
  | nam j =>
    have hj : j < vs.length := by rw [h.len]; exact ho
    show Small (vs.getD j 0)
    rw [List.getD_eq_getElem?_getD, List.getElem?_eq_getElem hj]
    exact h.small _ (List.getElem_mem hj)
theorem small0 : Small 0 := ⟨by decide, by decide⟩
theorem rk_comm (a b : Int) (s : Str) (h : (decide (s = "+") || decide (s = "*")) = true) : rk a s b = rk b s a := by
  rw [Bool.or_eq_true, decide_eq_true_eq, decide_eq_true_eq] at h
  rcases h with rfl | rfl
  · simp [rk, Int.add_comm]
  · simp [rk, Int.mul_comm]
theorem rk_plus0 (a : Int) (h : Small a) : rk a "+" 0 = a := by simp [rk]; exact ar_stay a h
theorem rk_sub (a b : Int) : rk a "-" b = rk a "+" (ar (0 - b)) := by
  simp [rk]; unfold ar; omega
theorem ar0 : ar 0 = 0 := by decide
theorem rk_nou (y : Opd) (s : Str) (z : Opd) (vs : List Int) (h : nou y s z = true) : rk (worth y vs) s (worth z vs) = 0 := by
  unfold nou at h
  split at h
  · rename_i q; subst q
    rw [decide_eq_true_eq] at h; subst h
    simp [rk, worth, ar0]
  · split at h
    · rename_i q; subst q
      rw [decide_eq_true_eq] at h; subst h
      simp [rk, worth, imod]
    · rw [Bool.and_eq_true, decide_eq_true_eq, decide_eq_true_eq] at h
      obtain ⟨rfl, rfl⟩ := h
      simp [rk, ar0]
theorem doneC (x : Nat) (y : Opd) (s : Str) (z : Opd) (p : Nat) {m : Nat} {vs : List Int} (hv : OkV m vs) : doneR (mputC x y s z) p vs = .at (p + 1) (vs.set x (rk (worth y vs) s (worth z vs))) := by
  unfold mputC
  split
  · rename_i h
    rw [Bool.and_eq_true, Bool.and_eq_true, decide_eq_true_eq, decide_eq_true_eq, decide_eq_true_eq] at h
    obtain ⟨rfl, rfl, rfl⟩ := h
    show Sta.at (p + 1) vs = _
    by_cases hx : x < vs.length
    · have e : worth (.nam x) vs = vs[x] := by show vs.getD x 0 = _; rw [List.getD_eq_getElem?_getD, List.getElem?_eq_getElem hx]; rfl
      rw [e]
      show Sta.at (p + 1) vs = .at (p + 1) (vs.set x (rk vs[x] "+" 0))
      rw [rk_plus0 _ (hv.small _ (List.getElem_mem hx)), List.set_getElem_self]
    · rw [List.set_eq_of_length_le (by omega)]
  · rfl
theorem doneB (x : Nat) (y : Opd) (s : Str) (z : Opd) (p : Nat) {m : Nat} {vs : List Int} (hv : OkV m vs) : doneR (mputB x y s z) p vs = .at (p + 1) (vs.set x (rk (worth y vs) s (worth z vs))) := by
  unfold mputB
  split
  · rename_i h
    rw [rk_nou y s z vs h]
    show Sta.at (p + 1) (vs.set x (rk 0 "+" 0)) = _
    rw [rk_plus0 0 small0]
  · split
    · rename_i h
      rw [Bool.and_eq_true, Bool.or_eq_true, decide_eq_true_eq, decide_eq_true_eq, decide_eq_true_eq] at h
      obtain ⟨h, rfl⟩ := h
      rw [doneC x y "+" (.num 0) p hv]
      rcases h with rfl | rfl <;> simp [rk, worth, idiv]
    · exact doneC x y s z p hv
theorem doneA (x : Nat) (y : Opd) (s : Str) (z : Opd) (p : Nat) {m : Nat} {vs : List Int} (hv : OkV m vs) : doneR (mputA x y s z) p vs = .at (p + 1) (vs.set x (rk (worth y vs) s (worth z vs))) := by
  unfold mputA
  split
  · rename_i h
    rw [Bool.and_eq_true] at h
    rw [doneB x z s y p hv, rk_comm _ _ s h.1]
  · exact doneB x y s z p hv
theorem donePut (x : Nat) (y : Opd) (s : Str) (z : Opd) (p : Nat) {m : Nat} {vs : List Int} (hv : OkV m vs) (hy : OkO m y) (hz : OkO m z) : doneR (mput x y s z) p vs = .at (p + 1) (vs.set x (rk (worth y vs) s (worth z vs))) := by
  cases y with
  | num a =>
    cases z with
    | num b =>
      show Sta.at (p + 1) (vs.set x (rk (rk a s b) "+" 0)) = .at (p + 1) (vs.set x (rk a s b))
      rw [rk_plus0 _ (rk_small a s b hy hz)]
    | nam j => exact doneA x _ s _ p hv
  | nam i =>
    cases z with
    | num b =>
      show doneR (if s = "-" then mputA x (.nam i) "+" (.num (ar (0 - b))) else mputA x (.nam i) s (.num b)) p vs = _
      split
      · rename_i q; subst q
        rw [doneA x _ _ _ p hv, rk_sub]; rfl
      · exact doneA x _ s _ p hv
    | nam j => exact doneA x _ s _ p hv
theorem so_refl (a b : Int) (s : Str) : so a s a = so b s b := by
  unfold so
  simp
theorem so_gt (a b : Int) : so a ">" b = so b "<" a := by simp [so]
theorem so_ge (a b : Int) : so a ">=" b = so b "<=" a := by simp [so]
theorem so_sym (a b : Int) (s : Str) (h : (decide (s = "=") || decide (s = "!=")) = true) : so a s b = so b s a := by
  rw [Bool.or_eq_true, decide_eq_true_eq, decide_eq_true_eq] at h
  rcases h with rfl | rfl
  · simp [so, eq_comm]
  · simp [so, eq_comm]
def onSo (b : Bool) (t p : Nat) (vs : List Int) : Sta := if b then .at t vs else .at (p + 1) vs
theorem done_iff (y : Opd) (s : Str) (z : Opd) (t p : Nat) (vs : List Int) : doneR (.iff y s z t) p vs = onSo (so (worth y vs) s (worth z vs)) t p vs := rfl
theorem doneLe (y z : Opd) (t p : Nat) (vs : List Int) : doneR (mle y z t) p vs = onSo (so (worth y vs) "<=" (worth z vs)) t p vs := by
  have up : ∀ (a n : Int), so a "<" (n + 1) = so a "<=" n := fun a n => by simp [so]; omega
  have dn : ∀ (n a : Int), so (n - 1) "<" a = so n "<=" a := fun n a => by simp [so]; omega
  cases y <;> cases z <;> simp only [mle] <;> repeat' (split)
  all_goals simp only [done_iff, worth, up, dn]
theorem doneIB (y : Opd) (s : Str) (z : Opd) (t p : Nat) (vs : List Int) : doneR (mifB y s z t) p vs = onSo (so (worth y vs) s (worth z vs)) t p vs := by
  unfold mifB
  split
  · rename_i h; subst h; exact doneLe y z t p vs
  · rfl
theorem doneIA (y : Opd) (s : Str) (z : Opd) (t p : Nat) (vs : List Int) : doneR (mifA y s z t) p vs = onSo (so (worth y vs) s (worth z vs)) t p vs := by
  unfold mifA
  split
  · rename_i h
    have e : so (worth y vs) s (worth z vs) = so y.v s z.v := by
      rw [Bool.or_eq_true, decide_eq_true_eq, Bool.and_eq_true] at h
      rcases h with rfl | ⟨h1, h2⟩
      · exact so_refl _ _ s
      · cases y <;> cases z <;> first | rfl | (cases h1; done) | (cases h2; done)
    rw [e]
    cases so y.v s z.v <;> rfl
  · split
    · rename_i h
      rw [Bool.and_eq_true] at h
      rw [doneIB, so_sym _ _ s h.1]
    · exact doneIB y s z t p vs
theorem doneI (y : Opd) (s : Str) (z : Opd) (t p : Nat) (vs : List Int) : doneR (mif y s z t) p vs = onSo (so (worth y vs) s (worth z vs)) t p vs := by
  unfold mif
  split
  · rename_i h; subst h; rw [doneIA, so_gt]
  · split
    · rename_i h; subst h; rw [doneIA, so_ge]
    · exact doneIA y s z t p vs
/-- what is made of a row does the same -/
theorem done_mrow (r : Row) (p : Nat) {m l : Nat} {vs : List Int} (hv : OkV m vs) (h : OkR m l r) : doneR (mrow r p) p vs = doneR r p vs := by
  cases r with
  | put x y s z => exact donePut x y s z p hv h.2.1 h.2.2.1
  | iff y s z t =>
    show doneR (if t = p + 1 then .skip else mif y s z t) p vs = _
    split
    · rename_i q
      subst q
      rw [done_iff]
      unfold onSo
      split <;> rfl
    · exact doneI y s z t p vs
  | go t =>
    show doneR (if t = p + 1 then .skip else .go t) p vs = _
    split
    · rename_i q; subst q; rfl
    · rfl
  | skip => rfl
  | tell a => rfl
theorem ok_num {m : Nat} {n : Int} (h : Small n) : OkO m (.num n) := h
theorem mputC_ok {m l x : Nat} {y z : Opd} {s : Str} (hx : x < m) (hy : OkO m y) (hz : OkO m z) (hs : s ∈ sums) : OkR m l (mputC x y s z) := by
  unfold mputC
  split
  · trivial
  · exact ⟨hx, hy, hz, hs⟩
theorem plus_sums : ("+" : Str) ∈ sums := by simp [sums]
theorem mputB_ok {m l x : Nat} {y z : Opd} {s : Str} (hx : x < m) (hy : OkO m y) (hz : OkO m z) (hs : s ∈ sums) : OkR m l (mputB x y s z) := by
  unfold mputB
  split
  · exact ⟨hx, small0, small0, plus_sums⟩
  · split
    · exact mputC_ok hx hy small0 plus_sums
    · exact mputC_ok hx hy hz hs
theorem mputA_ok {m l x : Nat} {y z : Opd} {s : Str} (hx : x < m) (hy : OkO m y) (hz : OkO m z) (hs : s ∈ sums) : OkR m l (mputA x y s z) := by
  unfold mputA
  split
  · exact mputB_ok hx hz hy hs
  · exact mputB_ok hx hy hz hs
theorem mput_ok {m l x : Nat} {y z : Opd} {s : Str} (hx : x < m) (hy : OkO m y) (hz : OkO m z) (hs : s ∈ sums) : OkR m l (mput x y s z) := by
  unfold mput
  split
  · exact ⟨hx, rk_small _ _ _ hy hz, small0, plus_sums⟩
  · split
    · exact mputA_ok hx hy (ar_small _) plus_sums
    · exact mputA_ok hx hy hz hs
  · exact mputA_ok hx hy hz hs
theorem lt_looks : ("<" : Str) ∈ looks := by simp [looks]
theorem le_looks : ("<=" : Str) ∈ looks := by simp [looks]
theorem mle_ok {m l t : Nat} {y z : Opd} (hy : OkO m y) (hz : OkO m z) (ht : t ≤ l) : OkR m l (mle y z t) := by
  cases y <;> cases z <;> simp only [mle] <;> repeat' (split)
  all_goals first
    | exact ⟨hy, hz, ht, le_looks⟩
    | (refine ⟨hy, ?_, ht, lt_looks⟩; unfold OkO Small at *; omega)
    | (refine ⟨?_, hz, ht, lt_looks⟩; unfold OkO Small at *; omega)
theorem mifB_ok {m l t : Nat} {y z : Opd} {s : Str} (hy : OkO m y) (hz : OkO m z) (ht : t ≤ l) (hs : s ∈ looks) : OkR m l (mifB y s z t) := by
  unfold mifB
  split
  · exact mle_ok hy hz ht
  · exact ⟨hy, hz, ht, hs⟩
theorem mifA_ok {m l t : Nat} {y z : Opd} {s : Str} (hy : OkO m y) (hz : OkO m z) (ht : t ≤ l) (hs : s ∈ looks) : OkR m l (mifA y s z t) := by
  unfold mifA
  split
  · split
    · exact ht
    · trivial
  · split
    · exact mifB_ok hz hy ht hs
    · exact mifB_ok hy hz ht hs
theorem mrow_ok {m l : Nat} {r : Row} (p : Nat) (h : OkR m l r) : OkR m l (mrow r p) := by
  cases r with
  | put x y s z => exact mput_ok h.1 h.2.1 h.2.2.1 h.2.2.2
  | iff y s z t =>
    show OkR m l (if t = p + 1 then .skip else mif y s z t)
    split
    · trivial
    · unfold mif
      split
      · exact mifA_ok h.2.1 h.1 h.2.2.1 lt_looks
      · split
        · exact mifA_ok h.2.1 h.1 h.2.2.1 le_looks
        · exact mifA_ok h.1 h.2.1 h.2.2.1 h.2.2.2
  | go t =>
    show OkR m l (if t = p + 1 then .skip else .go t)
    split
    · trivial
    · exact h
  | skip => trivial
  | tell a => exact h
/-! ### the made code of a program -/
def madeP (p : Pgm) : Pgm := ⟨p.takes, p.many, p.rows.zipIdx.map fun x => mrow x.1 x.2⟩
theorem madeP_len (p : Pgm) : (madeP p).rows.length = p.rows.length := by simp [madeP]
theorem madeP_at (p : Pgm) (k : Nat) : (madeP p).rows[k]? = p.rows[k]?.map fun r => mrow r k := by
  unfold madeP
  rw [List.getElem?_map, List.getElem?_zipIdx]
  cases p.rows[k]? <;> simp
theorem madeP_ok {p : Pgm} (hp : OkP p) : OkP (madeP p) := by
  refine ⟨fun r hr => ?_, by rw [madeP_len]; exact hp.len⟩
  rw [madeP_len]
  obtain ⟨k, hk⟩ := List.getElem?_of_mem hr
  rw [madeP_at] at hk
  cases h : p.rows[k]? with
  | none => rw [h] at hk; cases hk
  | some x =>
    rw [h] at hk
    cases hk
    exact mrow_ok k (hp.rows x (List.mem_of_getElem? h))
theorem enum_eq (xs : List Row) : (iota 0 (xs.map Row.d).length).zipWith (fun i d => D.tup [i, d]) (xs.map Row.d) = xs.zipIdx.map fun x => D.tup [.int x.2, x.1.d] := by
  apply List.ext_getElem?
  intro i
  rw [iota_map]
  by_cases h : i < xs.length
  · simp [List.getElem?_zipWith, List.getElem?_zipIdx, h]
  · simp [List.getElem?_zipWith, List.getElem?_zipIdx, h]
theorem c_made (k : Nat) {p : Pgm} (hp : OkP p) : callF tab gv wfn (k + 5) f_made [p.d] = .ok (madeP p).d := by
  rw [callF_at _ at_made rfl]
  have e : compL (.many [4, 5]) (evc ⟨callF tab gv wfn (k + 4), gv, wfn⟩ .no) (ev ⟨callF tab gv wfn (k + 4), gv, wfn⟩ (.cal .any f_made_row (.cons (.var 5) (.cons (.var 4) .nil)))) (p.rows.zipIdx.map fun x => D.tup [.int x.2, x.1.d]) [some p.d, some (.tup p.takes), some (.int p.many), some (.tup (p.rows.map Row.d)), none, none] = .ok (p.rows.zipIdx.map fun x => (mrow x.1 x.2).d) :=
    compL_map (fun x : Row × Nat => D.tup [.int x.2, x.1.d]) (fun x => (mrow x.1 x.2).d) _ p.rows.zipIdx fun x hx => by
      have hx' := List.mem_zipIdx_iff_getElem?.mp hx
      have em := c_made_row k p.many p.rows.length x.1 x.2 (hp.rows x.1 (List.mem_of_getElem? hx'))
      exact ⟨_, rfl, rfl, by simp [em]⟩
  have en := enum_eq p.rows
  have lr := hp.len
  have l1 : p.rows.length ≤ 16777216 := by omega
  simp only [List.length_map] at en
  simp only [Pgm.d] at e
  simp [d_made, b_made, Pgm.d, wipeD, Tg.slots, en, e, madeP, l1, Function.comp_def]
/-! ### steps -/
theorem cut_put (ds : List D) (n : Nat) (d : D) (h : n < ds.length) : ds.take n ++ d :: ds.drop (n + 1) = ds.set n d := by
  rw [List.set_eq_take_append_cons_drop, if_pos h]
theorem c_put_at (k : Nat) (ds : List D) (n : Nat) (d : D) (h : n < ds.length) (hl : ds.length ≤ 1000) : callF tab gv wfn (k + 1) f_put_at [.tup ds, .int n, d] = .ok (.tup (ds.set n d)) := by
  rw [callF_at _ at_put_at rfl]
  have c1 : cutD ds none (some (n : Int)) = ds.take n := cut_hi _ _
  have c2 : cutD ds (some ((n : Int) + 1)) none = ds.drop (n + 1) := cut_lo _ (n + 1)
  have b1 : min n ds.length ≤ 16777215 := by omega
  have b2 : min n ds.length + 1 + (ds.length - (n + 1)) ≤ 16777216 := by omega
  simp [d_put_at, b_put_at, c1, c2, b1, b2, cut_put ds n d h]
def nxS (s : Str) : Str := if s = "+" then "-" else if s = "-" then "*" else if s = "*" then "/" else if s = "/" then "mod" else "+"
def nxL (s : Str) : Str := if s = "<" then "<=" else if s = "<=" then "=" else if s = "=" then ">=" else if s = ">=" then ">" else if s = ">" then "!=" else "<"
theorem sums_of0 {s : Str} (h : s ∈ sums) : s = "+" ∨ s = "-" ∨ s = "*" ∨ s = "/" ∨ s = "mod" := by simpa [sums] using h
theorem looks_of0 {s : Str} (h : s ∈ looks) : s = "<" ∨ s = "<=" ∨ s = "=" ∨ s = ">=" ∨ s = ">" ∨ s = "!=" := by simpa [looks] using h
theorem c_next_S (k : Nat) (s : Str) (h : s ∈ sums) : callF tab gv wfn (k + 1) f_next_sign [.str s, gv g_SUMS] = .ok (.str (nxS s)) := by
  rw [callF_at _ at_next_sign rfl]
  have tx : ∀ (z : Str) (j : Nat), (dStrs [.str "+", .str "-", .str "*", .str "/", .str "mod"]).bind (sIdx z) = some j → onTx (.gtp [.str "+", .str "-", .str "*", .str "/", .str "mod"]) (.str z) = .ok (.int j) := fun z j e => onTx_some e
  rcases sums_of0 h with rfl | rfl | rfl | rfl | rfl
  · have e := tx "+" 0 (by simp [dStrs, sIdx])
    simp [d_next_sign, b_next_sign, e, dIx_gtp, atI, ixN, nxS]
  · have e := tx "-" 1 (by simp [dStrs, sIdx])
    simp [d_next_sign, b_next_sign, e, dIx_gtp, atI, ixN, nxS]
  · have e := tx "*" 2 (by simp [dStrs, sIdx])
    simp [d_next_sign, b_next_sign, e, dIx_gtp, atI, ixN, nxS]
  · have e := tx "/" 3 (by simp [dStrs, sIdx])
    simp [d_next_sign, b_next_sign, e, dIx_gtp, atI, ixN, nxS]
  · have e := tx "mod" 4 (by simp [dStrs, sIdx])
    simp [d_next_sign, b_next_sign, e, dIx_gtp, atI, ixN, nxS]
theorem c_next_L (k : Nat) (s : Str) (h : s ∈ looks) : callF tab gv wfn (k + 1) f_next_sign [.str s, gv g_LOOKS] = .ok (.str (nxL s)) := by
  rw [callF_at _ at_next_sign rfl]
  have tx : ∀ (z : Str) (j : Nat), (dStrs [.str "<", .str "<=", .str "=", .str ">=", .str ">", .str "!="]).bind (sIdx z) = some j → onTx (.gtp [.str "<", .str "<=", .str "=", .str ">=", .str ">", .str "!="]) (.str z) = .ok (.int j) := fun z j e => onTx_some e
  rcases looks_of0 h with rfl | rfl | rfl | rfl | rfl | rfl
  · have e := tx "<" 0 (by simp [dStrs, sIdx])
    simp [d_next_sign, b_next_sign, e, dIx_gtp, atI, ixN, nxL]
  · have e := tx "<=" 1 (by simp [dStrs, sIdx])
    simp [d_next_sign, b_next_sign, e, dIx_gtp, atI, ixN, nxL]
  · have e := tx "=" 2 (by simp [dStrs, sIdx])
    simp [d_next_sign, b_next_sign, e, dIx_gtp, atI, ixN, nxL]
  · have e := tx ">=" 3 (by simp [dStrs, sIdx])
    simp [d_next_sign, b_next_sign, e, dIx_gtp, atI, ixN, nxL]
  · have e := tx ">" 4 (by simp [dStrs, sIdx])
    simp [d_next_sign, b_next_sign, e, dIx_gtp, atI, ixN, nxL]
  · have e := tx "!=" 5 (by simp [dStrs, sIdx])
    simp [d_next_sign, b_next_sign, e, dIx_gtp, atI, ixN, nxL]
/-- the rows that a step makes -/
def rowsT (l : List Row) : D := .tup (l.map Row.d)
def sgR : Row → List Row
  | .put x a s b => [.put x a (nxS s) b]
  | .iff a s b t => [.iff a (nxL s) b t]
  | _ => []
theorem c_Sign_turned (k : Nat) {m l : Nat} (r : Row) (h : OkR m l r) (o many : D) : callF tab gv wfn (k + 2) f_Sign_turned [o, r.d, many] = .ok (rowsT (sgR r)) := by
  rw [callF_at _ at_Sign_turned rfl]
  cases r with
  | put x a s b =>
    have e1 := c_next_S k s h.2.2.2
    have e2 := c_put_at k [.str "put", .int x, a.d, .str s, b.d] 3 (.str (nxS s)) (by simp) (by simp)
    simp only [Int.cast_ofNat_Int] at e2
    simp only [gv_SUMS] at e1
    simp [d_Sign_turned, b_Sign_turned, Row.d, e1, e2, rowsT, sgR]
  | iff a s b t =>
    have e1 := c_next_L k s h.2.2.2
    have e2 := c_put_at k [.str "if", a.d, .str s, b.d, .int t] 2 (.str (nxL s)) (by simp) (by simp)
    simp only [Int.cast_ofNat_Int] at e2
    simp only [gv_LOOKS] at e1
    simp [d_Sign_turned, b_Sign_turned, Row.d, e1, e2, rowsT, sgR]
  | go t => simp [d_Sign_turned, b_Sign_turned, Row.d, rowsT, sgR]
  | skip => simp [d_Sign_turned, b_Sign_turned, Row.d, rowsT, sgR]
  | tell a => simp [d_Sign_turned, b_Sign_turned, Row.d, rowsT, sgR]
theorem c_Sign_word (k : Nat) (o : D) : callF tab gv wfn (k + 1) f_Sign_word [o] = .ok (.str "sign") := by
  rw [callF_at _ at_Sign_word rfl]
  simp [d_Sign_word, b_Sign_word]
theorem eqv_sx (a b : Str) : D.eqv (.str a) (.str b) = decide (a = b) := by
  rw [D.eqv]
  rw [Bool.eq_iff_iff, beq_iff_eq, decide_eq_true_eq]
theorem dF_nil (k : D) : dFind [] k = none := (rfl)
theorem dF_cons (a k v : D) (r : List (D × D)) : dFind ((a, v) :: r) k = if D.eqv a k = true then some v else dFind r k := by
  unfold dFind
  rw [List.find?_cons]
  cases D.eqv a k <;> rfl
/-! ### a number one more -/
def inc : Opd → List Opd
  | .num n => [.num (ar (n + 1))]
  | .nam _ => []
def moR : Row → List Row
  | .put x a s b => (inc a).map (fun a' => .put x a' s b) ++ (inc b).map (fun b' => .put x a s b')
  | .iff a s b t => (inc a).map (fun a' => .iff a' s b t) ++ (inc b).map (fun b' => .iff a s b' t)
  | .tell a => (inc a).map .tell
  | _ => []
def plcR : Row → List Nat
  | .put .. => [2, 4]
  | .iff .. => [1, 3]
  | .tell _ => [1]
  | _ => []
theorem c_operand_places (k : Nat) (r : Row) : callF tab gv wfn (k + 1) f_operand_places [r.d] = .ok (.lst (nl (plcR r))) := by
  rw [callF_at _ at_operand_places rfl]
  cases r <;> simp [d_operand_places, b_operand_places, Row.d, plcR]
theorem more_step (k : Nat) (ds : List D) (n : Nat) (o : Opd) (V : List D) (hn : ds[n]? = some o.d) (hl : ds.length ≤ 1000) (lV : V.length ≤ 100) (o0 o2 o4 o5 o6 : Option D) :
    ∃ o5' o6' : Option D, exB ⟨callF tab gv wfn (k + 1), gv, wfn⟩ w0_More_turned [o0, some (.tup ds), o2, some (.lst V), some (.int n), o5, o6] = .ok (.nx [o0, some (.tup ds), o2, some (.lst (V ++ (inc o).map fun o' => .tup (ds.set n o'.d))), some (.int n), o5', o6']) := by
  have hn' : n < ds.length := (List.getElem?_eq_some_iff.mp hn).1
  have lV' : V.length < 16777216 := by omega
  cases o with
  | nam i =>
    refine ⟨some (.str "name"), some (.int i), ?_⟩
    simp only [Opd.d] at hn
    simp [w0_More_turned, hn, inc]
  | num i =>
    have e1 := c_around k (i + 1)
    have e2 := c_put_at k ds n (.tup [.str "number", .int (ar (i + 1))]) hn' hl
    refine ⟨some (.str "number"), some (.int i), ?_⟩
    simp only [Opd.d] at hn
    simp [w0_More_turned, hn, e1, e2, inc, lV', Opd.d]
theorem c_More_turned (k : Nat) (r : Row) (o many : D) : callF tab gv wfn (k + 2) f_More_turned [o, r.d, many] = .ok (rowsT (moR r)) := by
  rw [callF_at _ at_More_turned rfl]
  have ep := c_operand_places k r
  have lp : ∀ (l : List Nat) (os : List Opd) (ds : List D) (V : List D) (o4 o5 o6 : Option D), l.length = os.length → ds.length ≤ 1000 → V.length + l.length ≤ 90 → (∀ (i n : Nat) (p : Opd), l[i]? = some n → os[i]? = some p → ds[n]? = some p.d) →
      ∃ o4' o5' o6' : Option D, forL (.one 4) (exB ⟨callF tab gv wfn (k + 1), gv, wfn⟩ w0_More_turned) (nl l) [some o, some (.tup ds), some many, some (.lst V), o4, o5, o6] = .ok (.nx [some o, some (.tup ds), some many, some (.lst (V ++ (l.zip os).flatMap fun x => (inc x.2).map fun o' => .tup (ds.set x.1 o'.d))), o4', o5', o6']) := by
    intro l
    induction l with
    | nil =>
      intro os ds V o4 o5 o6 e _ _ _
      exact ⟨o4, o5, o6, by simp⟩
    | cons n l ih =>
      intro os ds V o4 o5 o6 e hl hV hat
      cases os with
      | nil => cases e
      | cons p os =>
        have h0 := hat 0 n p rfl rfl
        simp only [List.length_cons] at hV e
        have li : (inc p).length ≤ 1 := by cases p <;> simp [inc]
        obtain ⟨a, b, e1⟩ := more_step k ds n p V h0 hl (by omega) (some o) (some many) o4 o5 o6
        obtain ⟨a', b', c', e2⟩ := ih os ds (V ++ (inc p).map fun o' => .tup (ds.set n o'.d)) (some (.int n)) a b (by omega) hl (by simp; omega) (fun i n' p' h1 h2 => hat (i + 1) n' p' h1 h2)
        refine ⟨a', b', c', ?_⟩
        rw [nl_cons, forL_cons]
        simp only [tset1, List.set_cons_succ, List.set_cons_zero, Rs.ok_bind]
        rw [e1, Rs.ok_bind, onL_nx, e2]
        simp
  have fin : ∀ (ds : List D) (os : List Opd), r.d = .tup ds → (plcR r).length = os.length → ds.length ≤ 1000 → (∀ (i n : Nat) (p : Opd), (plcR r)[i]? = some n → os[i]? = some p → ds[n]? = some p.d) →
      (((plcR r).zip os).flatMap fun x => (inc x.2).map fun o' => D.tup (ds.set x.1 o'.d)) = (moR r).map Row.d →
      (exB ⟨callF tab gv wfn (k + 1), gv, wfn⟩ b_More_turned [some o, some r.d, some many, none, none, none, none] >>= onR) = .ok (rowsT (moR r)) := by
    intro ds os e1 e2 e3 e4 e5
    have lp1 : (plcR r).length ≤ 2 := by cases r <;> simp [plcR]
    obtain ⟨a, b, c, e⟩ := lp (plcR r) os ds [] none none none e2 e3 (by simp; omega) e4
    rw [e1] at ep ⊢
    rw [List.nil_append, e5] at e
    simp [b_More_turned, ep, e, rowsT, isMut]
  have go : ∀ b : D, (exB ⟨callF tab gv wfn (k + 1), gv, wfn⟩ b_More_turned [some o, some r.d, some many, none, none, none, none] >>= onR) = .ok b → (nE (exB ⟨callF tab gv wfn (k + 1), gv, wfn⟩ d_More_turned.body ([o, r.d, many].map some ++ List.replicate (d_More_turned.N.length - 3) none)) >>= onR) = .ok b := fun b h => nE_of h
  refine go _ ?_
  cases r with
  | put x a s b =>
    refine fin [.str "put", .int x, a.d, .str s, b.d] [a, b] rfl rfl (by simp) (fun i n p h1 h2 => ?_) ?_
    · match i, h1, h2 with
      | 0, h1, h2 => cases h1; cases h2; rfl
      | 1, h1, h2 => cases h1; cases h2; rfl
      | i + 2, h1, h2 => simp [plcR] at h1
    · cases a <;> cases b <;> simp [plcR, inc, moR, Row.d]
  | iff a s b t =>
    refine fin [.str "if", a.d, .str s, b.d, .int t] [a, b] rfl rfl (by simp) (fun i n p h1 h2 => ?_) ?_
    · match i, h1, h2 with
      | 0, h1, h2 => cases h1; cases h2; rfl
      | 1, h1, h2 => cases h1; cases h2; rfl
      | i + 2, h1, h2 => simp [plcR] at h1
    · cases a <;> cases b <;> simp [plcR, inc, moR, Row.d]
  | tell a =>
    refine fin [.str "tell", a.d] [a] rfl rfl (by simp) (fun i n p h1 h2 => ?_) ?_
    · match i, h1, h2 with
      | 0, h1, h2 => cases h1; cases h2; rfl
      | i + 1, h1, h2 => simp [plcR] at h1
    · cases a <;> simp [plcR, inc, moR, Row.d]
  | go t => exact fin [.str "go", .int t] [] rfl rfl (by simp) (fun i n p h1 h2 => by simp at h2) rfl
  | skip => exact fin [.str "skip"] [] rfl rfl (by simp) (fun i n p h1 h2 => by simp at h2) rfl
theorem c_More_word (k : Nat) (o : D) : callF tab gv wfn (k + 1) f_More_word [o] = .ok (.str "more") := by
  rw [callF_at _ at_More_word rfl]
  simp [d_More_word, b_More_word]
def ouR : Row → List Row
  | .skip => []
  | _ => [.skip]
theorem skip_ne (s : Str) (xs : List D) (h : s ≠ "skip") (hs : PyData.strOk s = true) (hx : xs.all (okN 59) = true) : dCmp .eq (.tup (.str s :: xs)) (.tup [.str "skip"]) = .ok (.bl false) := by
  rw [cmp_eqT, okN_tup, okN_tup, List.all_cons, okN_str, hs, hx]
  simp [h, show PyData.strOk "skip" = true by decide +kernel]
theorem skip_ok : PyData.strOk "skip" = true := by decide +kernel
theorem opd_ok (n : Nat) (o : Opd) : okN (n + 1) o.d = true := by
  have h1 : PyData.strOk "number" = true := by decide +kernel
  have h2 : PyData.strOk "name" = true := by decide +kernel
  cases o <;> simp [Opd.d, h1, h2]
theorem sum_ok {s : Str} (h : s ∈ sums) : PyData.strOk s = true := by
  simp only [sums, List.mem_cons, List.not_mem_nil, or_false] at h
  rcases h with rfl | rfl | rfl | rfl | rfl <;> decide +kernel
theorem look_ok {s : Str} (h : s ∈ looks) : PyData.strOk s = true := by
  simp only [looks, List.mem_cons, List.not_mem_nil, or_false] at h
  rcases h with rfl | rfl | rfl | rfl | rfl | rfl <;> decide +kernel
theorem c_Out_turned (k : Nat) {m l : Nat} (r : Row) (h : OkR m l r) (o many : D) : callF tab gv wfn (k + 1) f_Out_turned [o, r.d, many] = .ok (rowsT (ouR r)) := by
  rw [callF_at _ at_Out_turned rfl]
  have ok := skip_ok
  cases r with
  | put x a s b =>
    have e := skip_ne "put" [.int x, a.d, .str s, b.d] (by simp) (by decide +kernel) (by simp [opd_ok, sum_ok h.2.2.2])
    simp [d_Out_turned, b_Out_turned, Row.d, e, rowsT, ouR]
  | iff a s b t =>
    have e := skip_ne "if" [a.d, .str s, b.d, .int t] (by simp) (by decide +kernel) (by simp [opd_ok, look_ok h.2.2.2])
    simp [d_Out_turned, b_Out_turned, Row.d, e, rowsT, ouR]
  | go t =>
    have e := skip_ne "go" [.int t] (by simp) (by decide +kernel) (by simp)
    simp [d_Out_turned, b_Out_turned, Row.d, e, rowsT, ouR]
  | skip =>
    have e : dCmp .eq (.tup [.str "skip"]) (.tup [.str "skip"]) = .ok (.bl true) := by
      rw [cmp_eqT, okN_tup, List.all_cons, okN_str, ok]
      simp
    simp [d_Out_turned, b_Out_turned, Row.d, e, rowsT, ouR]
  | tell a =>
    have e := skip_ne "tell" [a.d] (by simp) (by decide +kernel) (by simp [opd_ok])
    simp [d_Out_turned, b_Out_turned, Row.d, e, rowsT, ouR]
theorem c_Out_word (k : Nat) (o : D) : callF tab gv wfn (k + 1) f_Out_word [o] = .ok (.str "out") := by
  rw [callF_at _ at_Out_word rfl]
  simp [d_Out_word, b_Out_word]
/-! ### the contrary sign, operands exchanged, one place farther -/
def ct (s : Str) : Str := if s = "<" then ">=" else if s = "<=" then ">" else if s = "=" then "!=" else if s = ">=" then "<" else if s = ">" then "<=" else "="
def ctR : Row → List Row
  | .iff a s b t => [.iff a (ct s) b t]
  | _ => []
def swR : Row → List Row
  | .put x a s b => if a = b then [] else [.put x b s a]
  | .iff a s b t => if a = b then [] else [.iff b s a t]
  | _ => []
def faR (l : Nat) : Row → List Row
  | .go t => if t = l then [] else [.go (t + 1)]
  | .iff a s b t => if t = l then [] else [.iff a s b (t + 1)]
  | _ => []
theorem ix_ct {s : Str} (h : s ∈ looks) : dIx (gv g_CONTRARY) (.str s) = .ok (.str (ct s)) := by
  rw [gv_CONTRARY, ix_gdc]
  rcases looks_of0 h with rfl | rfl | rfl | rfl | rfl | rfl <;> simp [dF_cons, eqv_sx, ct]
theorem c_Turn_turned (k : Nat) {m l : Nat} (r : Row) (h : OkR m l r) (o many : D) : callF tab gv wfn (k + 2) f_Turn_turned [o, r.d, many] = .ok (rowsT (ctR r)) := by
  rw [callF_at _ at_Turn_turned rfl]
  cases r with
  | iff a s b t =>
    have e1 := ix_ct h.2.2.2
    have e2 := c_put_at k [.str "if", a.d, .str s, b.d, .int t] 2 (.str (ct s)) (by simp) (by simp)
    simp only [Int.cast_ofNat_Int] at e2
    simp only [gv_CONTRARY] at e1
    simp [d_Turn_turned, b_Turn_turned, Row.d, e1, e2, rowsT, ctR, -ix_gdc]
  | put x a s b => simp [d_Turn_turned, b_Turn_turned, Row.d, rowsT, ctR]
  | go t => simp [d_Turn_turned, b_Turn_turned, Row.d, rowsT, ctR]
  | skip => simp [d_Turn_turned, b_Turn_turned, Row.d, rowsT, ctR]
  | tell a => simp [d_Turn_turned, b_Turn_turned, Row.d, rowsT, ctR]
theorem c_Swap_turned (k : Nat) (r : Row) (o many : D) : callF tab gv wfn (k + 2) f_Swap_turned [o, r.d, many] = .ok (rowsT (swR r)) := by
  rw [callF_at _ at_Swap_turned rfl]
  have ep := c_operand_places k r
  cases r with
  | put x a s b =>
    have e := eqO a b
    have e1 := c_put_at k [.str "put", .int x, a.d, .str s, b.d] 2 b.d (by simp) (by simp)
    have e2 := c_put_at k [.str "put", .int x, b.d, .str s, b.d] 4 a.d (by simp) (by simp)
    simp only [Int.cast_ofNat_Int, List.set_cons_succ, List.set_cons_zero] at e1 e2
    simp only [plcR, nl, List.map_cons, List.map_nil, Int.cast_ofNat_Int] at ep
    by_cases c : a = b
    · subst c
      simp only [decide_true] at e
      simp only [Row.d] at ep
      simp [d_Swap_turned, b_Swap_turned, Row.d, ep, e, rowsT, swR]
    · rw [decide_eq_false c] at e
      simp only [Row.d] at ep
      simp [d_Swap_turned, b_Swap_turned, Row.d, ep, e, e1, e2, rowsT, swR, c, tset1]
  | iff a s b t =>
    have e := eqO a b
    have e1 := c_put_at k [.str "if", a.d, .str s, b.d, .int t] 1 b.d (by simp) (by simp)
    have e2 := c_put_at k [.str "if", b.d, .str s, b.d, .int t] 3 a.d (by simp) (by simp)
    simp only [Int.cast_ofNat_Int, List.set_cons_succ, List.set_cons_zero] at e1 e2
    simp only [plcR, nl, List.map_cons, List.map_nil, Int.cast_ofNat_Int] at ep
    by_cases c : a = b
    · subst c
      simp only [decide_true] at e
      simp only [Row.d] at ep
      simp [d_Swap_turned, b_Swap_turned, Row.d, ep, e, rowsT, swR]
    · rw [decide_eq_false c] at e
      simp only [Row.d] at ep
      simp [d_Swap_turned, b_Swap_turned, Row.d, ep, e, e1, e2, rowsT, swR, c, tset1]
  | go t =>
    simp only [plcR, nl, List.map_cons, List.map_nil, Row.d] at ep
    simp [d_Swap_turned, b_Swap_turned, Row.d, ep, rowsT, swR]
  | skip =>
    simp only [plcR, nl, List.map_cons, List.map_nil, Row.d] at ep
    simp [d_Swap_turned, b_Swap_turned, Row.d, ep, rowsT, swR]
  | tell a =>
    simp only [plcR, nl, List.map_cons, List.map_nil, Row.d] at ep
    simp [d_Swap_turned, b_Swap_turned, Row.d, ep, rowsT, swR]
theorem c_Far_turned (k : Nat) (l : Nat) (r : Row) (o : D) : callF tab gv wfn (k + 2) f_Far_turned [o, r.d, .int l] = .ok (rowsT (faR l r)) := by
  rw [callF_at _ at_Far_turned rfl]
  cases r with
  | go t =>
    have e2 := c_put_at k [.str "go", .int t] 1 (.int (t + 1)) (by simp) (by simp)
    simp only [Int.cast_ofNat_Int] at e2
    by_cases c : t = l
    · subst c; simp [d_Far_turned, b_Far_turned, Row.d, rowsT, faR]
    · have c' : ¬ ((t : Int) = l) := by omega
      simp [d_Far_turned, b_Far_turned, Row.d, rowsT, faR, c, c', e2]
  | iff a s b t =>
    have e2 := c_put_at k [.str "if", a.d, .str s, b.d, .int t] 4 (.int (t + 1)) (by simp) (by simp)
    simp only [Int.cast_ofNat_Int] at e2
    by_cases c : t = l
    · subst c; simp [d_Far_turned, b_Far_turned, Row.d, rowsT, faR]
    · have c' : ¬ ((t : Int) = l) := by omega
      simp [d_Far_turned, b_Far_turned, Row.d, rowsT, faR, c, c', e2]
  | put x a s b => simp [d_Far_turned, b_Far_turned, Row.d, rowsT, faR]
  | skip => simp [d_Far_turned, b_Far_turned, Row.d, rowsT, faR]
  | tell a => simp [d_Far_turned, b_Far_turned, Row.d, rowsT, faR]
theorem c_Turn_word (k : Nat) (o : D) : callF tab gv wfn (k + 1) f_Turn_word [o] = .ok (.str "turn") := by
  rw [callF_at _ at_Turn_word rfl]
  simp [d_Turn_word, b_Turn_word]
theorem c_Swap_word (k : Nat) (o : D) : callF tab gv wfn (k + 1) f_Swap_word [o] = .ok (.str "swap") := by
  rw [callF_at _ at_Swap_word rfl]
  simp [d_Swap_word, b_Swap_word]
theorem c_Far_word (k : Nat) (o : D) : callF tab gv wfn (k + 1) f_Far_word [o] = .ok (.str "far") := by
  rw [callF_at _ at_Far_word rfl]
  simp [d_Far_word, b_Far_word]
/-- a loop that only lengthens a list -/
theorem apps {α : Type} {tg : Tg} {b : PV.Env → Rs Fl} (N : Nat) (en : α → D) (g : α → List D) (I : List D → PV.Env → Prop) : ∀ (l : List α) (V : List D) (δ : PV.Env), V.length + (l.flatMap g).length ≤ N →
    (∀ x ∈ l, ∀ V δ, I V δ → V.length + (g x).length ≤ N → ∃ δ1 δ2, tset1 tg (en x) δ = .ok δ1 ∧ b δ1 = .ok (.nx δ2) ∧ I (V ++ g x) δ2) → I V δ → ∃ δ', forL tg b (l.map en) δ = .ok (.nx δ') ∧ I (V ++ l.flatMap g) δ'
  | [], V, δ, _, _, i => ⟨δ, rfl, by simpa using i⟩
  | x :: l, V, δ, n, h, i => by
    rw [List.flatMap_cons, List.length_append] at n
    obtain ⟨δ1, δ2, e1, e2, i2⟩ := h x (List.mem_cons_self ..) V δ i (by omega)
    obtain ⟨δ', e3, i3⟩ := apps N en g I l (V ++ g x) δ2 (by rw [List.length_append]; omega) (fun y hy => h y (List.mem_cons_of_mem _ hy)) i2
    refine ⟨δ', ?_, by rw [List.flatMap_cons, ← List.append_assoc]; exact i3⟩
    rw [List.map_cons, forL_cons, e1, Rs.ok_bind, e2, Rs.ok_bind, onL_nx, e3]
/-! ### the fakes of a program -/
def wd : Nat → Str
  | 0 => "sign" | 1 => "more" | 2 => "turn" | 3 => "out" | 4 => "swap" | _ => "far"
def stR (l : Nat) (r : Row) : Nat → List Row
  | 0 => sgR r | 1 => moR r | 2 => ctR r | 3 => ouR r | 4 => swR r | _ => faR l r
def fkR (l : Nat) (r : Row) : List (Str × Row) := (List.range 6).flatMap fun c => (stR l r c).map fun q => (wd c, q)
def fkP (rows : List Row) : List (Nat × Str × Row) := rows.zipIdx.flatMap fun x => (fkR rows.length x.1).map fun y => (x.2, y.1, y.2)
def fkD (x : Nat × Str × Row) : D := .tup [.int x.1, .str x.2.1, x.2.2.d]
theorem inc_le (a : Opd) : (inc a).length ≤ 1 := by cases a <;> simp [inc]
theorem fkR_len (l : Nat) (r : Row) : (fkR l r).length ≤ 7 := by
  have h : (fkR l r).length = (sgR r).length + (moR r).length + (ctR r).length + (ouR r).length + (swR r).length + (faR l r).length := by
    simp [fkR, stR, List.range_succ]; omega
  rw [h]
  cases r with
  | put x a s b =>
    have := inc_le a; have := inc_le b
    simp only [sgR, moR, ctR, ouR, swR, faR, List.length_append, List.length_map, List.length_cons, List.length_nil]
    split <;> simp <;> omega
  | iff a s b t =>
    have := inc_le a; have := inc_le b
    simp only [sgR, moR, ctR, ouR, swR, faR, List.length_append, List.length_map, List.length_cons, List.length_nil]
    split <;> split <;> simp <;> omega
  | go t =>
    simp only [sgR, moR, ctR, ouR, swR, faR]
    split <;> simp
  | skip => simp [sgR, moR, ctR, ouR, swR, faR]
  | tell a =>
    have := inc_le a
    simp [sgR, moR, ctR, ouR, swR, faR]; omega
theorem flat_len {α β : Type} (g : α → List β) (n : Nat) : ∀ (l : List α), (∀ x ∈ l, (g x).length ≤ n) → (l.flatMap g).length ≤ n * l.length
  | [], _ => by simp
  | x :: l, h => by
    have a := h x (List.mem_cons_self ..)
    have b := flat_len g n l fun y hy => h y (List.mem_cons_of_mem _ hy)
    rw [List.flatMap_cons, List.length_append, List.length_cons, Nat.mul_add]; omega
theorem fkP_len (rows : List Row) : (fkP rows).length ≤ 7 * rows.length := by
  have := flat_len (fun x : Row × Nat => (fkR rows.length x.1).map fun y => (x.2, y.1, y.2)) 7 rows.zipIdx fun x _ => by rw [List.length_map]; exact fkR_len _ _
  simpa [fkP] using this
def tbW : List (Nat × Nat) := [(0, f_Sign_word), (1, f_More_word), (2, f_Turn_word), (3, f_Out_word), (4, f_Swap_word), (5, f_Far_word)]
def tbT : List (Nat × Nat) := [(0, f_Sign_turned), (1, f_More_turned), (2, f_Turn_turned), (3, f_Out_turned), (4, f_Swap_turned), (5, f_Far_turned)]
theorem m_word (k : Nat) (c : Nat) (h : c < 6) : onMt (callF tab gv wfn (k + 1)) tbW (.ins c) [] = .ok (.str (wd c)) := by
  rw [onMt_ins]
  match c, h with
  | 0, _ => exact c_Sign_word k (.ins 0)
  | 1, _ => exact c_More_word k (.ins 1)
  | 2, _ => exact c_Turn_word k (.ins 2)
  | 3, _ => exact c_Out_word k (.ins 3)
  | 4, _ => exact c_Swap_word k (.ins 4)
  | 5, _ => exact c_Far_word k (.ins 5)
theorem m_turned (k : Nat) {m l : Nat} {r : Row} (hr : OkR m l r) (c : Nat) (h : c < 6) : onMt (callF tab gv wfn (k + 2)) tbT (.ins c) [r.d, .int l] = .ok (rowsT (stR l r c)) := by
  rw [onMt_ins]
  match c, h with
  | 0, _ => exact c_Sign_turned k r hr (.ins 0) (.int l)
  | 1, _ => exact c_More_turned k r (.ins 1) (.int l)
  | 2, _ => exact c_Turn_turned k r hr (.ins 2) (.int l)
  | 3, _ => exact c_Out_turned (k + 1) r hr (.ins 3) (.int l)
  | 4, _ => exact c_Swap_turned k r (.ins 4) (.int l)
  | 5, _ => exact c_Far_turned k l r (.ins 5)
theorem map_flat1 {α β : Type} (f : α → β) (l : List α) : (l.flatMap fun x => [f x]) = l.map f := by
  induction l with
  | nil => rfl
  | cons x l ih => simp [ih]
theorem c_fakes (k : Nat) {p : Pgm} (hp : OkP p) : callF tab gv wfn (k + 3) f_fakes [p.d] = .ok (.tup ((fkP p.rows).map fkD)) := by
  rw [callF_at _ at_fakes rfl]
  let M : Mn := ⟨callF tab gv wfn (k + 2), gv, wfn⟩
  let S : D := .lst [.ins 0, .ins 1, .ins 2, .ins 3, .ins 4, .ins 5]
  have lr := hp.len
  -- one step's rows
  have one : ∀ (i : Nat) (rd : D) (c : Nat), c < 6 → ∀ (L : List Row) (V : List D) (o7 : Option D), V.length + L.length ≤ 10000 → ∃ o7' : Option D, forL (.one 7) (exB M w0_fakes) (L.map Row.d) [some p.d, some (.tup (p.rows.map Row.d)), some S, some (.lst V), some (.int i), some rd, some (.ins c), o7] = .ok (.nx [some p.d, some (.tup (p.rows.map Row.d)), some S, some (.lst (V ++ L.map fun q => fkD (i, wd c, q))), some (.int i), some rd, some (.ins c), o7']) := by
    intro i rd c hc L V o7 hl
    have ew := m_word (k + 1) c hc
    obtain ⟨δ', e, o, rfl⟩ := apps (tg := .one 7) (b := exB M w0_fakes) 10000 Row.d (fun q => [fkD (i, wd c, q)]) (fun V δ => ∃ o7 : Option D, δ = [some p.d, some (.tup (p.rows.map Row.d)), some S, some (.lst V), some (.int i), some rd, some (.ins c), o7]) L V _ (by rw [map_flat1, List.length_map]; exact hl) (by
      rintro q _ V δ ⟨o, rfl⟩ hV
      have l : V.length < 16777216 := by omega
      refine ⟨_, _, rfl, by simp only [w0_fakes, M]; simp [show onMt (callF tab gv wfn (k + 2)) [(0, f_Sign_word), (1, f_More_word), (2, f_Turn_word), (3, f_Out_word), (4, f_Swap_word), (5, f_Far_word)] (.ins c) [] = .ok (.str (wd c)) from ew, l, -onMt_ins]; exact ⟨rfl, rfl⟩, _, rfl⟩) ⟨o7, rfl⟩
    rw [map_flat1] at e
    exact ⟨o, e⟩
  -- one row's steps
  have two : ∀ (i : Nat) (r : Row), OkR p.many p.rows.length r → ∀ (V : List D) (o6 o7 : Option D), V.length ≤ 9000 → ∃ o6' o7' : Option D, forL (.one 6) (exB M w1_fakes) [.ins 0, .ins 1, .ins 2, .ins 3, .ins 4, .ins 5] [some p.d, some (.tup (p.rows.map Row.d)), some S, some (.lst V), some (.int i), some r.d, o6, o7] = .ok (.nx [some p.d, some (.tup (p.rows.map Row.d)), some S, some (.lst (V ++ (fkR p.rows.length r).map fun y => fkD (i, y.1, y.2))), some (.int i), some r.d, o6', o7']) := by
    intro i r hr V o6 o7 hV
    have hF : ((List.range 6).flatMap fun c => (stR p.rows.length r c).map fun q => fkD (i, wd c, q)) = (fkR p.rows.length r).map fun y => fkD (i, y.1, y.2) := by
      rw [fkR, List.map_flatMap]
      simp [Function.comp_def]
    obtain ⟨δ', e, a, b, rfl⟩ := apps (tg := .one 6) (b := exB M w1_fakes) 10000 D.ins (fun c => (stR p.rows.length r c).map fun q => fkD (i, wd c, q)) (fun V δ => ∃ o6 o7 : Option D, δ = [some p.d, some (.tup (p.rows.map Row.d)), some S, some (.lst V), some (.int i), some r.d, o6, o7]) (List.range 6) V _ (by rw [hF, List.length_map]; have := fkR_len p.rows.length r; omega) (by
      rintro c hc V δ ⟨o6, o7, rfl⟩ hV
      have hc : c < 6 := by simpa using hc
      have et := m_turned k hr c hc
      rw [List.length_map] at hV
      obtain ⟨o, e⟩ := one i r.d c hc (stR p.rows.length r c) V o7 hV
      refine ⟨_, _, rfl, ?_, some (.ins c), o, rfl⟩
      simp only [w1_fakes, M] at e ⊢
      simp [show onMt (callF tab gv wfn (k + 2)) [(0, f_Sign_turned), (1, f_More_turned), (2, f_Turn_turned), (3, f_Out_turned), (4, f_Swap_turned), (5, f_Far_turned)] (.ins c) [r.d, .int p.rows.length] = .ok (rowsT (stR p.rows.length r c)) from et, rowsT, e, -onMt_ins]) ⟨o6, o7, rfl⟩
    rw [hF] at e
    exact ⟨a, b, e⟩
  have hG : (p.rows.zipIdx.flatMap fun x => (fkR p.rows.length x.1).map fun y => fkD (x.2, y.1, y.2)) = (fkP p.rows).map fkD := by
    rw [fkP, List.map_flatMap]
    simp [Function.comp_def]
  have lf := fkP_len p.rows
  obtain ⟨δ', e, a, b, c, d, rfl⟩ := apps (tg := .many [4, 5]) (b := exB M w2_fakes) 9000 (fun x : Row × Nat => D.tup [.int x.2, x.1.d]) (fun x => (fkR p.rows.length x.1).map fun y => fkD (x.2, y.1, y.2)) (fun V δ => ∃ o4 o5 o6 o7 : Option D, δ = [some p.d, some (.tup (p.rows.map Row.d)), some S, some (.lst V), o4, o5, o6, o7]) p.rows.zipIdx [] [some p.d, some (.tup (p.rows.map Row.d)), some S, some (.lst []), none, none, none, none] (by rw [hG, List.length_map]; simp; omega) (by
    rintro ⟨r, i⟩ hx V δ ⟨o4, o5, o6, o7, rfl⟩ hV
    have hx' := List.mem_zipIdx_iff_getElem?.mp hx
    obtain ⟨a, b, e⟩ := two i r (hp.rows r (List.mem_of_getElem? hx')) V o6 o7 (by omega)
    refine ⟨_, _, rfl, ?_, some (.int i), some r.d, a, b, rfl⟩
    simp only [w2_fakes, M, S] at e ⊢
    simp [e]) ⟨none, none, none, none, rfl⟩
  rw [hG, List.nil_append] at e
  have en := enum_eq p.rows
  have p2 : dIx p.d (.int 2) = .ok (.tup (p.rows.map Row.d)) := rfl
  have l1 : p.rows.length ≤ 16777216 := by omega
  have l2 : (fkP p.rows).length ≤ 16777216 := by omega
  simp only [List.length_map] at en
  simp only [M, S] at e
  simp [d_fakes, b_fakes, p2, en, e, l1, l2, isMut]
/-! ### bits of fakes -/
theorem inc_ok {m : Nat} {a b : Opd} (h : b ∈ inc a) : OkO m b := by
  cases a with
  | nam i => cases h
  | num n =>
    simp only [inc, List.mem_singleton] at h
    subst h
    exact ar_small _
theorem fk_ok {m l : Nat} {r : Row} (h : OkR m l r) : ∀ y ∈ fkR l r, OkR m l y.2 := by
  rintro ⟨w, q⟩ hy
  simp only [fkR, stR, wd, List.range_succ, List.range_zero, List.nil_append, List.cons_append, List.flatMap_cons, List.flatMap_nil, List.append_nil, List.mem_append, List.mem_map, Prod.mk.injEq] at hy
  rcases hy with ⟨q', hq, _, rfl⟩ | ⟨q', hq, _, rfl⟩ | ⟨q', hq, _, rfl⟩ | ⟨q', hq, _, rfl⟩ | ⟨q', hq, _, rfl⟩ | ⟨q', hq, _, rfl⟩
  · cases r <;> simp only [sgR, List.mem_singleton, List.not_mem_nil] at hq
    · subst hq
      refine ⟨h.1, h.2.1, h.2.2.1, ?_⟩
      rcases sums_of0 h.2.2.2 with rfl | rfl | rfl | rfl | rfl <;> simp [nxS, sums]
    · subst hq
      refine ⟨h.1, h.2.1, h.2.2.1, ?_⟩
      rcases looks_of0 h.2.2.2 with rfl | rfl | rfl | rfl | rfl | rfl <;> simp [nxL, looks]
  · cases r <;> simp only [moR, List.mem_append, List.mem_map, List.not_mem_nil] at hq
    · rcases hq with ⟨a', ha, rfl⟩ | ⟨a', ha, rfl⟩
      · exact ⟨h.1, inc_ok ha, h.2.2⟩
      · exact ⟨h.1, h.2.1, inc_ok ha, h.2.2.2⟩
    · rcases hq with ⟨a', ha, rfl⟩ | ⟨a', ha, rfl⟩
      · exact ⟨inc_ok ha, h.2⟩
      · exact ⟨h.1, inc_ok ha, h.2.2⟩
    · obtain ⟨a', ha, rfl⟩ := hq
      exact inc_ok ha
  · cases r <;> simp only [ctR, List.mem_singleton, List.not_mem_nil] at hq
    · subst hq
      refine ⟨h.1, h.2.1, h.2.2.1, ?_⟩
      rcases looks_of0 h.2.2.2 with rfl | rfl | rfl | rfl | rfl | rfl <;> simp [ct, looks]
  · cases r <;> simp only [ouR, List.mem_singleton, List.not_mem_nil] at hq <;> (subst hq; trivial)
  · cases r <;> simp only [swR, List.not_mem_nil] at hq
    · split at hq
      · cases hq
      · simp only [List.mem_singleton] at hq; subst hq; exact ⟨h.1, h.2.2.1, h.2.1, h.2.2.2⟩
    · split at hq
      · cases hq
      · simp only [List.mem_singleton] at hq; subst hq; exact ⟨h.2.1, h.1, h.2.2⟩
  · cases r <;> simp only [faR, List.not_mem_nil] at hq
    · split at hq
      · cases hq
      · simp only [List.mem_singleton] at hq; subst hq
        have := h.2.2.1
        exact ⟨h.1, h.2.1, by omega, h.2.2.2⟩
    · split at hq
      · cases hq
      · simp only [List.mem_singleton] at hq; subst hq
        have ht : _ ≤ l := h
        show _ ≤ l
        omega
def fakeP (p : Pgm) (k : Nat) (q : Row) : Pgm := ⟨p.takes, p.many, p.rows.set k q⟩
theorem fkP_mem {rows : List Row} {x : Nat × Str × Row} (h : x ∈ fkP rows) : ∃ r, rows[x.1]? = some r ∧ (x.2.1, x.2.2) ∈ fkR rows.length r := by
  obtain ⟨⟨r, i⟩, hx, h⟩ := List.mem_flatMap.mp h
  obtain ⟨y, hy, rfl⟩ := List.mem_map.mp h
  exact ⟨r, List.mem_zipIdx_iff_getElem?.mp hx, hy⟩
theorem fake_ok {p : Pgm} (hp : OkP p) {x : Nat × Str × Row} (h : x ∈ fkP p.rows) : OkP (fakeP p x.1 x.2.2) ∧ x.1 < p.rows.length := by
  obtain ⟨r, hr, hy⟩ := fkP_mem h
  have h1 := fk_ok (hp.rows r (List.mem_of_getElem? hr)) _ hy
  refine ⟨⟨fun q hq => ?_, by simp [fakeP]; exact hp.len⟩, (List.getElem?_eq_some_iff.mp hr).1⟩
  simp only [fakeP, List.length_set] at hq ⊢
  rcases List.mem_or_eq_of_mem_set hq with hq | rfl
  · exact hp.rows q hq
  · exact h1
theorem c_fake_of (k : Nat) (p : Pgm) (i : Nat) (q : Row) (h : i < p.rows.length) (hl : p.rows.length < 1000) : callF tab gv wfn (k + 1) f_fake_of [p.d, .int i, q.d] = .ok (fakeP p i q).d := by
  rw [callF_at _ at_fake_of rfl]
  have hl' : (p.rows.map Row.d).length < 1000 := by simpa using hl
  have h' : i < (p.rows.map Row.d).length := by simpa using h
  have c1 : cutD (p.rows.map Row.d) none (some (i : Int)) = (p.rows.map Row.d).take i := cut_hi _ _
  have c2 : cutD (p.rows.map Row.d) (some ((i : Int) + 1)) none = (p.rows.map Row.d).drop (i + 1) := cut_lo _ (i + 1)
  have b1 : min i p.rows.length ≤ 16777215 := by omega
  have b2 : min i p.rows.length + 1 + (p.rows.length - (i + 1)) ≤ 16777216 := by omega
  have e := cut_put (p.rows.map Row.d) i q.d h'
  rw [← List.map_set] at e
  simp [d_fake_of, b_fake_of, Pgm.d, c1, c2, b1, b2, e, fakeP, -List.map_take, -List.map_drop, -List.map_set]
end Lw
namespace Lw
open PySem PySem.Spec PyProof.Rows L2 PV
theorem okSums {s : Str} (h : s ∈ sums) : PyData.strOk s = true := by
  rcases sums_of h with rfl | rfl | rfl | rfl | rfl <;> decide +kernel
theorem okLooks {s : Str} (h : s ∈ looks) : PyData.strOk s = true := by
  rcases looks_of h with rfl | rfl | rfl | rfl | rfl | rfl <;> decide +kernel
theorem inL2 (s a b : Str) (hs : PyData.strOk s = true) (ha : PyData.strOk a = true) (hb : PyData.strOk b = true) : dCmp .inn (.str s) (.lst [.str a, .str b]) = .ok (.bl (decide (s = a) || decide (s = b))) := by
  rw [show dCmp .inn (.str s) (.lst [.str a, .str b]) = (if okN 60 (.str s) && [D.str a, D.str b].all (okN 60) then .ok (.bl (dIn (.str s) [.str a, .str b])) else .st) from rfl, if_pos (by simp [hs, ha, hb])]
  have h : ∀ a : Str, (a == s) = decide (s = a) := fun a => by rw [Bool.eq_iff_iff, beq_iff_eq, decide_eq_true_eq]; exact eq_comm
  simp only [dIn, D.eqv, List.any_cons, List.any_nil, Bool.or_false, h]
/-! ### rows compared -/
theorem eqvO (a b : Opd) : D.eqv a.d b.d = decide (a = b) := by
  have n1 : ¬ (Str.ofString "number" = Str.ofString "name") := by decide +kernel
  have n2 : ¬ (Str.ofString "name" = Str.ofString "number") := by decide +kernel
  cases a <;> cases b <;> simp [Opd.d, D.eqvs, Int.natCast_inj]
theorem okR {m l : Nat} {r : Row} (h : OkR m l r) : ∃ ds, r.d = .tup ds ∧ ds.all (okN 59) = true := by
  have o1 := okPut
  have o2 := okIf
  have o3 := okGo
  have o4 := okSkip
  have o5 := okTell
  have od : ∀ o : Opd, okN 59 o.d = true := fun o => okO 58 o
  cases r with
  | put x a s b => exact ⟨_, rfl, by simp [o1, okSums h.2.2.2, od]⟩
  | iff a s b t => exact ⟨_, rfl, by simp [o2, okLooks h.2.2.2, od]⟩
  | go t => exact ⟨_, rfl, by simp [o3]⟩
  | skip => exact ⟨_, rfl, by simp [o4]⟩
  | tell a => exact ⟨_, rfl, by simp [o5, od]⟩
theorem row_eqv (r s : Row) : D.eqv r.d s.d = decide (r = s) := by
  have e := eqvO
  have n1 : ∀ a b : Str, decide (a = b) = false → (a == b) = false := fun a b h => by rw [beq_eq_false_iff_ne]; exact of_decide_eq_false h
  cases r <;> cases s <;> simp [Row.d, D.eqvs, e, Int.natCast_inj, Bool.and_assoc]
theorem row_eq {m l m' l' : Nat} {r s : Row} (h : OkR m l r) (h' : OkR m' l' s) : dCmp .eq r.d s.d = .ok (.bl (decide (r = s))) := by
  obtain ⟨xs, e1, k1⟩ := okR h
  obtain ⟨ys, e2, k2⟩ := okR h'
  have q := row_eqv r s
  rw [e1, e2] at q ⊢
  rw [eqv_tt] at q
  rw [cmp_eqT, okN_tup, okN_tup, k1, k2, q]; rfl
theorem opd_kn (a : Opd) (n : Nat) : okKN (n + 1) a.d = true := by cases a <;> cases n <;> simp [Opd.d, okKN]
theorem row_kn (r : Row) (n : Nat) : okKN (n + 2) r.d = true := by cases r <;> simp [Row.d, okKN, opd_kn]
/-! ### twins -/
@[simp] theorem isMut_ndc (l : List (D × D)) : isMut (.ndc l) = true := (rfl)
@[simp] theorem isMut_nst (l : List D) : isMut (.nst l) = true := (rfl)
abbrev FX := Nat × Str × Row
def thr (x : FX) : Row := mrow x.2.2 x.1
def keq (y x : FX) : Bool := decide (y.1 = x.1) && decide (thr y = thr x)
def gix (x : FX) : List (FX × List Nat) → Option Nat
  | [] => none
  | y :: r => if keq y.1 x = true then some 0 else (gix x r).map (· + 1)
def gput (st : List (FX × List Nat)) (x : FX) (n : Nat) : List (FX × List Nat) := match gix x st with
  | some m => match st[m]? with
    | some y => st.set m (y.1, y.2 ++ [n])
    | none => st
  | none => st ++ [(x, [n])]
def sameF (rows : List Row) (x : FX) : Bool := decide (thr x = mrow (rows.getD x.1 .skip) x.1)
abbrev TwS := List Nat × List (FX × List Nat)
def twStep (rows : List Row) (t : TwS) (n : Nat) (x : FX) : TwS := if sameF rows x = true then (t.1 ++ [n], t.2) else (t.1, gput t.2 x n)
def tw (rows : List Row) : List FX → Nat → TwS → TwS
  | [], _, t => t
  | x :: l, n, t => tw rows l (n + 1) (twStep rows t n x)
def twP (p : Pgm) : TwS := tw p.rows (fkP p.rows) 0 ([], [])
def twD (t : TwS) : D := .tup [.tup (nl t.1), .tup (t.2.map fun y => .tup (nl y.2))]
def kyD (x : FX) : D := .tup [.int x.1, (thr x).d]
def grD (st : List (FX × List Nat)) : List (D × D) := st.map fun y => (kyD y.1, .lst (nl y.2))
theorem ky_eqv (y x : FX) : D.eqv (kyD y) (kyD x) = keq y x := by
  unfold kyD keq
  rw [eqv_tt]
  simp only [D.eqvs, row_eqv, Bool.and_true]
  congr 1
  rw [D.eqv]
  rw [Bool.eq_iff_iff, beq_iff_eq, decide_eq_true_eq, Int.natCast_inj]
theorem kIdx_gr (x : FX) : ∀ st : List (FX × List Nat), kIdx (kyD x) (grD st) = gix x st
  | [] => rfl
  | y :: st => by
    show (if D.eqv (kyD y.1) (kyD x) = true then some 0 else (kIdx (kyD x) (grD st)).map (· + 1)) = _
    rw [ky_eqv, kIdx_gr x st]; rfl
theorem gix_at {x : FX} : ∀ {st : List (FX × List Nat)} {m : Nat}, gix x st = some m → ∃ y, st[m]? = some y ∧ keq y.1 x = true
  | y :: st, m, h => by
    unfold gix at h
    split at h
    · rename_i q; cases h; exact ⟨y, rfl, q⟩
    · obtain ⟨m', h', rfl⟩ := Option.map_eq_some_iff.mp h
      obtain ⟨z, h1, h2⟩ := gix_at h'
      exact ⟨z, h1, h2⟩
/-- what is kept: sizes, whose they are -/
structure TwOk (rows : List Row) (n : Nat) (t : TwS) : Prop where
  l1 : t.1.length ≤ n
  l2 : t.2.length ≤ n
  l3 : ∀ y ∈ t.2, y.2.length ≤ n ∧ y.1 ∈ fkP rows ∧ sameF rows y.1 = false
theorem gput_ok {rows : List Row} {n : Nat} {t : TwS} {x : FX} (h : TwOk rows n t) (hx : x ∈ fkP rows) : TwOk rows (n + 1) (twStep rows t n x) := by
  unfold twStep
  split
  · exact ⟨by simp [h.l1], by have := h.l2; simp; omega, fun y hy => let ⟨a, b⟩ := h.l3 y hy; ⟨by omega, b⟩⟩
  · rename_i hs
    have hs : sameF rows x = false := by simpa using hs
    refine ⟨by have := h.l1; simp; omega, ?_, ?_⟩
    · show (gput t.2 x n).length ≤ n + 1
      unfold gput
      split
      · split
        · rw [List.length_set]; have := h.l2; omega
        · have := h.l2; omega
      · rw [List.length_append]; have := h.l2; simp; omega
    · show ∀ y ∈ gput t.2 x n, _
      unfold gput
      split
      · split
        · rename_i y hy
          intro z hz
          rcases List.mem_or_eq_of_mem_set hz with hz | rfl
          · exact ⟨by have := (h.l3 z hz).1; omega, (h.l3 z hz).2⟩
          · have q := h.l3 y (List.mem_of_getElem? hy)
            exact ⟨by rw [List.length_append]; simp; exact q.1, q.2⟩
        · exact fun y hy => ⟨by have := (h.l3 y hy).1; omega, (h.l3 y hy).2⟩
      · intro z hz
        rcases List.mem_append.mp hz with hz | hz
        · exact ⟨by have := (h.l3 z hz).1; omega, (h.l3 z hz).2⟩
        · rw [List.mem_singleton.mp hz]
          exact ⟨by simp, hx, hs⟩
theorem tw_ok {rows : List Row} : ∀ (l : List FX) (n : Nat) (t : TwS), (∀ x ∈ l, x ∈ fkP rows) → TwOk rows n t → TwOk rows (n + l.length) (tw rows l n t)
  | [], n, t, _, h => h
  | x :: l, n, t, hl, h => by
    have := tw_ok l (n + 1) (twStep rows t n x) (fun y hy => hl y (List.mem_cons_of_mem _ hy)) (gput_ok h (hl x List.mem_cons_self))
    rw [List.length_cons]
    rw [show n + (l.length + 1) = n + 1 + l.length by omega]
    exact this
theorem isKT_ky (x : FX) : isKT (kyD x) = true := by
  simp only [kyD, isKT, List.all_cons, List.all_nil, Bool.and_true, okKN, Bool.true_and]
  exact row_kn _ 5
theorem grD_at {st : List (FX × List Nat)} {m : Nat} {y : FX × List Nat} (h : st[m]? = some y) : (grD st)[m]? = some (kyD y.1, .lst (nl y.2)) := by
  unfold grD; rw [List.getElem?_map, h]; rfl
/-- one fake more -/
theorem sda_gr {st : List (FX × List Nat)} {x : FX} {n : Nat} {δ : PV.Env} {i : Nat} (l : st.length < 16777216) (l2 : ∀ y ∈ st, y.2.length < 16777216) : onSa (.ndc (grD st)) (kyD x) (.int n) i δ = .ok (.nx (δ.set i (some (.ndc (grD (gput st x n)))))) := by
  have l' : (grD st).length < sizeLine := by simp [grD]; exact l
  cases e : gix x st with
  | none =>
    rw [onSa_new (isKT_ky x) l' (by rw [kIdx_gr, e])]
    simp [gput, e, grD]
  | some m =>
    obtain ⟨y, hy, _⟩ := gix_at e
    rw [onSa_old (isKT_ky x) l' (by rw [kIdx_gr, e]) (grD_at hy) (by have := l2 y (List.mem_of_getElem? hy); simpa using this)]
    simp [gput, e, hy, grD, List.map_set]
theorem w_row {p : Pgm} (hp : OkP p) {x : FX} (hx : x ∈ fkP p.rows) : OkR p.many p.rows.length x.2.2 ∧ ∃ r, p.rows[x.1]? = some r ∧ OkR p.many p.rows.length r := by
  obtain ⟨r, hr, hy⟩ := fkP_mem hx
  have h0 := hp.rows r (List.mem_of_getElem? hr)
  exact ⟨fk_ok h0 _ hy, r, hr, h0⟩
theorem tw_turn (k : Nat) {p : Pgm} (hp : OkP p) {x : FX} (hx : x ∈ fkP p.rows) (n : Nat) (t : TwS) (ht : TwOk p.rows n t) (hn : n < 100000) (o6 o7 o8 o9 o10 : Option D) :
    ∃ o6' o7' o8' o9', exB ⟨callF tab gv wfn (k + 4), gv, wfn⟩ w0_twins [some p.d, some (.tup (p.rows.map Row.d)), some (.lst (nl t.1)), some (.ndc (grD t.2)), some (.int n), some (fkD x), o6, o7, o8, o9, o10] =
      .ok (.nx [some p.d, some (.tup (p.rows.map Row.d)), some (.lst (nl (twStep p.rows t n x).1)), some (.ndc (grD (twStep p.rows t n x).2)), some (.int n), some (fkD x), o6', o7', o8', o9', o10]) := by
  obtain ⟨h1, r, hr, h2⟩ := w_row hp hx
  have hk : x.1 < p.rows.length := (List.getElem?_eq_some_iff.mp hr).1
  have e1 := c_made_row k p.many p.rows.length x.2.2 x.1 h1
  have e2 := c_made_row k p.many p.rows.length r x.1 h2
  have eq := row_eq (mrow_ok x.1 h1) (mrow_ok x.1 h2)
  have gd : p.rows.getD x.1 .skip = r := by rw [List.getD_eq_getElem?_getD, hr]; rfl
  have hs : sameF p.rows x = decide (mrow x.2.2 x.1 = mrow r x.1) := by unfold sameF thr; rw [gd]
  have hix : (p.rows.map Row.d)[x.1]? = some r.d := by rw [List.getElem?_map, hr]; rfl
  have hg : p.rows[x.1] = r := by
    have := hr
    rw [List.getElem?_eq_getElem hk] at this
    exact Option.some.inj this
  have l1 := ht.l1
  refine ⟨some (mrow x.2.2 x.1).d, some (.int x.1), some (.str x.2.1), some x.2.2.d, ?_⟩
  cases c : decide (mrow x.2.2 x.1 = mrow r x.1) with
  | true =>
    rw [c] at eq hs
    have lt : t.1.length < 16777216 := by omega
    simp [w0_twins, fkD, e1, hg, hk, e2, eq, twStep, hs, lt]
  | false =>
    rw [c] at eq hs
    have sd := fun δ => sda_gr (st := t.2) (x := x) (n := n) (δ := δ) (i := 3) (by have := ht.l2; omega) (fun y hy => by have := (ht.l3 y hy).1; omega)
    simp only [kyD, thr] at sd
    simp [w0_twins, fkD, e1, hg, hk, e2, eq, twStep, hs, sd]
theorem tw_loop (k : Nat) {p : Pgm} (hp : OkP p) : ∀ (l : List FX) (n : Nat) (t : TwS), (∀ x ∈ l, x ∈ fkP p.rows) → n + l.length < 100000 → TwOk p.rows n t → ∀ o4 o5 o6 o7 o8 o9 o10 : Option D,
    ∃ o4' o5' o6' o7' o8' o9', forL (.many [4, 5]) (exB ⟨callF tab gv wfn (k + 4), gv, wfn⟩ w0_twins) ((iota n l.length).zipWith (fun i d => D.tup [i, d]) (l.map fkD)) [some p.d, some (.tup (p.rows.map Row.d)), some (.lst (nl t.1)), some (.ndc (grD t.2)), o4, o5, o6, o7, o8, o9, o10] =
      .ok (.nx [some p.d, some (.tup (p.rows.map Row.d)), some (.lst (nl (tw p.rows l n t).1)), some (.ndc (grD (tw p.rows l n t).2)), o4', o5', o6', o7', o8', o9', o10])
  | [], n, t, _, _, _, o4, o5, o6, o7, o8, o9, o10 => ⟨o4, o5, o6, o7, o8, o9, rfl⟩
  | x :: l, n, t, hl, hn, ht, o4, o5, o6, o7, o8, o9, o10 => by
    rw [List.length_cons] at hn
    obtain ⟨a6, a7, a8, a9, e1⟩ := tw_turn k hp (hl x List.mem_cons_self) n t ht (by omega) o6 o7 o8 o9 o10
    obtain ⟨b4, b5, b6, b7, b8, b9, e2⟩ := tw_loop k hp l (n + 1) (twStep p.rows t n x) (fun y hy => hl y (List.mem_cons_of_mem _ hy)) (by omega) (gput_ok ht (hl x List.mem_cons_self)) (some (.int n)) (some (fkD x)) a6 a7 a8 a9 o10
    refine ⟨b4, b5, b6, b7, b8, b9, ?_⟩
    have ei : iota (n : Int) (l.length + 1) = .int n :: iota ((n + 1 : Nat) : Int) l.length := by rw [iota]; simp
    rw [List.length_cons, ei, List.map_cons, List.zipWith_cons_cons, forL_cons]
    have et : tset1 (.many [4, 5]) (.tup [.int n, fkD x]) [some p.d, some (.tup (p.rows.map Row.d)), some (.lst (nl t.1)), some (.ndc (grD t.2)), o4, o5, o6, o7, o8, o9, o10] = .ok [some p.d, some (.tup (p.rows.map Row.d)), some (.lst (nl t.1)), some (.ndc (grD t.2)), some (.int n), some (fkD x), o6, o7, o8, o9, o10] := rfl
    rw [et, Rs.ok_bind, e1, Rs.ok_bind, onL_nx]
    exact e2
theorem twP_ok {p : Pgm} : TwOk p.rows (fkP p.rows).length (twP p) := by
  have := tw_ok (rows := p.rows) (fkP p.rows) 0 ([], []) (fun x h => h) ⟨by simp, by simp, by simp⟩
  rwa [Nat.zero_add] at this
theorem nl_atom (l : List Nat) : (nl l).all atomD = true := by simp [nl, atomD]
theorem c_twins (k : Nat) {p : Pgm} (hp : OkP p) : callF tab gv wfn (k + 5) f_twins [p.d] = .ok (twD (twP p)) := by
  rw [callF_at _ at_twins rfl]
  have ef := c_fakes (k + 1) hp
  have hl := fkP_len p.rows
  have hr := hp.len
  have ok := twP_ok (p := p)
  obtain ⟨o4, o5, o6, o7, o8, o9, e1⟩ := tw_loop k hp (fkP p.rows) 0 ([], []) (fun x h => h) (by omega) ⟨by simp, by simp, by simp⟩ none none none none none none none
  have e2 : compL (.one 10) (fun _ => .ok (.bl true)) (ev ⟨callF tab gv wfn (k + 4), gv, wfn⟩ (.bi .tuple1 (.cons (.var 10) .nil))) ((twP p).2.map fun y => D.lst (nl y.2)) [none, none, none, none, none, none, none, none, none, none, none] = .ok ((twP p).2.map fun y => D.tup (nl y.2)) :=
    compL_map (fun y : FX × List Nat => D.lst (nl y.2)) (fun y => D.tup (nl y.2)) _ (twP p).2 fun y hy => ⟨_, rfl, rfl, by simp⟩
  have e3 : (grD (twP p).2).map (·.2) = (twP p).2.map fun y => D.lst (nl y.2) := by simp [grD, Function.comp_def]
  have l3 : ((twP p).2.map fun y => D.tup (nl y.2)).length ≤ sizeLine ∧ ((twP p).2.map fun y => D.tup (nl y.2)).all tupD = true := by
    refine ⟨?_, ?_⟩
    · rw [List.length_map]
      have := ok.l2
      have h7 : (7 : Nat) * p.rows.length ≤ 7000 := by omega
      exact Nat.le_trans this (Nat.le_trans hl (Nat.le_trans h7 (by decide)))
    · rw [List.all_map]
      exact List.all_eq_true.mpr fun y _ => nl_atom y.2
  have e0 : exS ⟨callF tab gv wfn (k + 4), gv, wfn⟩ (.for (.many [4, 5]) (.enum (.cal .any f_fakes (.cons (.var 0) .nil))) w0_twins [2, 3]) [some p.d, some (.tup (p.rows.map Row.d)), some (.lst []), some (.ndc []), none, none, none, none, none, none, none] =
      .ok (.nx [some p.d, some (.tup (p.rows.map Row.d)), some (.lst (nl (twP p).1)), some (.ndc (grD (twP p).2)), o4, o5, o6, o7, o8, o9, none]) := by
    simp [ef]
    simp at e1
    exact e1
  have et : ev ⟨callF tab gv wfn (k + 4), gv, wfn⟩ (.vlc 3 (.one 10) (.bi .tuple1 (.cons (.var 10) .nil))) [some p.d, some (.tup (p.rows.map Row.d)), some (.lst (nl (twP p).1)), some (.ndc (grD (twP p).2)), o4, o5, o6, o7, o8, o9, none] = .ok (.lst ((twP p).2.map fun y => D.tup (nl y.2))) := by
    rw [ev_vlc, vget_s, vget_s, vget_s, vget_0, Rs.ok_bind, onVl_ndc, e3]
    show (compL (.one 10) _ _ _ [none, none, none, none, none, none, none, none, none, none, none] >>= _) = _
    rw [e2, Rs.ok_bind, if_pos l3]
  have hd : p.d = .tup [.tup p.takes, .int p.many, .tup (p.rows.map Row.d)] := rfl
  have ei : dIx p.d (.int 2) = .ok (.tup (p.rows.map Row.d)) := rfl
  have l1 : (twP p).2.length ≤ 16777216 := by have := ok.l2; omega
  simp [d_twins, b_twins, -exS_for, -ev_vlc, ei, e0, et, twD]
end Lw
namespace Lw
open PySem PySem.Spec PyProof.Rows L2 PV
/-! ### the law's own likeness, of data with themselves -/
def plD : Nat → D → Bool
  | _, .int _ => true
  | _, .str _ => true
  | n + 1, .tup xs => decide (xs.length ≤ 1000000) && xs.all (plD n)
  | _, _ => false
@[simp] theorem plD_int (n : Nat) (i : Int) : plD n (.int i) = true := by cases n <;> rfl
@[simp] theorem plD_str (n : Nat) (i : Str) : plD n (.str i) = true := by cases n <;> rfl
@[simp] theorem plD_tup (n : Nat) (xs : List D) : plD (n + 1) (.tup xs) = (decide (xs.length ≤ 1000000) && xs.all (plD n)) := (rfl)
theorem c_lalike : ∀ (n k : Nat) (d : D), plD n d = true → callF tab gv wfn (k + n + 1) f_l_alike [d, d] = .ok (.bl true)
  | n, k, .int i, _ => by
    rw [callF_at _ at_l_alike rfl]
    simp [d_l_alike, b_l_alike]
  | n, k, .str i, _ => by
    rw [callF_at _ at_l_alike rfl]
    simp [d_l_alike, b_l_alike]
  | n + 1, k, .tup xs, h => by
    rw [callF_at _ at_l_alike rfl]
    rw [plD_tup, Bool.and_eq_true, decide_eq_true_eq] at h
    have r : compL (.one 2) (evc ⟨callF tab gv wfn (k + (n + 1)), gv, wfn⟩ (.yes (.not (.cal .any f_l_alike (.cons (.ix (.var 0) (.var 2)) (.cons (.ix (.var 1) (.var 2)) .nil)))))) (ev ⟨callF tab gv wfn (k + (n + 1)), gv, wfn⟩ (.var 2)) (nl (List.range xs.length)) [some (.tup xs), some (.tup xs), none] = .ok (((List.range xs.length).filter fun _ => false).map fun n : Nat => D.int n) :=
      compL_nl (fun _ => false) (fun n : Nat => D.int n) _ _ fun i hi => by
        have hi : i < xs.length := by simpa using hi
        have e := c_lalike n k xs[i] (List.all_eq_true.mp h.2 _ (List.getElem_mem hi))
        rw [Nat.add_assoc] at e
        exact ⟨_, rfl, by simp [hi, e], fun z => by cases z⟩
    have e0 : ((List.range xs.length).filter fun _ => false) = [] := by simp
    rw [e0] at r
    have o1 : okI (xs.length : Int) = true := by simp [okI]; omega
    simp [d_l_alike, b_l_alike, wipeD, Tg.slots, iota_nl, o1, r]
  | 0, k, .tup xs, h => by cases h
  | _, k, .non, h => by simp [plD] at h
  | _, k, .bl _, h => by simp [plD] at h
  | _, k, .lst _, h => by simp [plD] at h
  | _, k, .dct _ _, h => by simp [plD] at h
  | _, k, .gdc _, h => by simp [plD] at h
  | _, k, .gtp _, h => by simp [plD] at h
  | _, k, .ins _, h => by simp [plD] at h
  | _, k, .exc _ _, h => by simp [plD] at h
  | _, k, .nst _, h => by simp [plD] at h
  | _, k, .ndc _, h => by simp [plD] at h
  | _, k, .obj _ _, h => by simp [plD] at h
theorem opd_pl (n : Nat) (o : Opd) : plD (n + 1) o.d = true := by cases o <;> simp [Opd.d]
theorem row_pl (n : Nat) (r : Row) : plD (n + 2) r.d = true := by cases r <;> simp [Row.d, opd_pl]
/-! ### the program drawn -/
theorem cells4 (M : Mn) (e : Ex) (δ : PV.Env) (vj : Nat) (h : ∀ j : Nat, j < 4 → ∃ c : Int, ev M e (δ.set vj (some (.int j))) = .ok (.int c)) :
    ∃ a b c d : Int, compL (.one vj) (evc M .no) (ev M e) (iota 0 4) δ = .ok [.int a, .int b, .int c, .int d] := by
  obtain ⟨l, ll, _, e⟩ := compL_il (tg := .one vj) (c := evc M .no) (e := ev M e) δ (fun _ => True) (iota 0 4) (by
    intro x hx
    obtain ⟨j, hj⟩ := List.getElem?_of_mem hx
    obtain ⟨rfl, hj'⟩ := iota_at hj
    obtain ⟨c, ec⟩ := h j hj'
    rw [Int.zero_add]
    exact ⟨_, c, rfl, rfl, ec, trivial⟩)
  rw [iota_length] at ll
  match l, ll, e with
  | [a, b, c, d], _, e => exact ⟨a, b, c, d, e⟩
theorem bi_sorted2 (a b : Int) : ∃ lo hi : Int, dBi .sorted1 [.lst [.int a, .int b]] = .ok (.lst [.int lo, .int hi]) := by
  by_cases h : a ≤ b
  · exact ⟨a, b, by simp [dBi, dInts, isort, insI, h]⟩
  · exact ⟨b, a, by simp [dBi, dInts, isort, insI, h]⟩
def tk1 (x : Int × Int) : D := .tup [.int x.1, .int x.2]
theorem c_program (k : Nat) (ns : List Int) : ∃ p : Pgm, OkP p ∧ p.rows.length ≤ 12 ∧ (∃ tk : List (Int × Int), p.takes = tk.map tk1) ∧ callF tab gv wfn (k + 5) f_l_program [.lst (ns.map D.int)] = .ok p.d := by
  rw [callF_at _ at_l_program rfl]
  obtain ⟨c0, e0⟩ := c_cell_at (k + 3) ns 0
  obtain ⟨c1, e1⟩ := c_cell_at (k + 3) ns 1
  obtain ⟨c2, e2⟩ := c_cell_at (k + 3) ns 2
  obtain ⟨c3, e3⟩ := c_cell_at (k + 3) ns 3
  simp only [Int.natCast_zero, Int.cast_ofNat_Int] at e0 e1 e2 e3
  obtain ⟨n1, _, f1⟩ := c_number_by (k + 3) c1
  obtain ⟨n2, _, f2⟩ := c_number_by (k + 3) c2
  obtain ⟨lo, hi, fs⟩ := bi_sorted2 n1 n2
  obtain ⟨m, hm⟩ : ∃ m : Nat, (m : Int) = c0 % 6 := ⟨(c0 % 6).toNat, by omega⟩
  have lm : m ≤ 5 := by omega
  obtain ⟨M, hM, fM⟩ : ∃ M : Nat, 4 ≤ M ∧ dBi .max2 [.int (ns.length : Int), .int 4] = .ok (.int M) := by
    by_cases q : (4 : Int) > (ns.length : Int)
    · exact ⟨4, Nat.le_refl _, by rw [bi_max, if_pos q]; rfl⟩
    · exact ⟨ns.length, by omega, by rw [bi_max, if_neg q]⟩
  obtain ⟨w, lw, fw⟩ : ∃ w : Nat, w ≤ 12 ∧ dIx (.lst [.int 7, .int 12]) (.int (if c3 % 8 = 5 then 1 else 0)) = .ok (.int w) := by
    by_cases q : c3 % 8 = 5
    · exact ⟨12, Nat.le_refl _, by rw [if_pos q]; rfl⟩
    · exact ⟨7, by omega, by rw [if_neg q]; rfl⟩
  obtain ⟨z, lz, fz⟩ : ∃ z : Nat, z ≤ 12 ∧ dBi .min2 [.int w, .int (((M : Int) - 1) / 4)] = .ok (.int z) := by
    by_cases q : ((M : Int) - 1) / 4 < w
    · exact ⟨(((M : Int) - 1) / 4).toNat, by omega, by rw [bi_min, if_pos q, Int.toNat_of_nonneg (by omega)]⟩
    · exact ⟨w, lw, by rw [bi_min, if_neg q]⟩
  have loop : ∀ (tk : List D) (o6 : Option D), ∃ (rows : List Row) (o5 o7 : Option D), forL (.one 5) (exB ⟨callF tab gv wfn (k + 4), gv, wfn⟩ w0_l_program) (iota 0 z) [some (.lst (ns.map D.int)), some (.int m), some (.lst tk), some (.int z), some (.lst []), none, o6, none, none] =
      .ok (.nx [some (.lst (ns.map D.int)), some (.int m), some (.lst tk), some (.int z), some (.lst (rows.map Row.d)), o5, o6, o7, none]) ∧ rows.length = z ∧ ∀ r ∈ rows, OkR m z r := by
    intro tk o6
    obtain ⟨δ2, f2, rows, o5, o7, rfl, rl, ro⟩ := cnt1 (v := 5) (b := exB ⟨callF tab gv wfn (k + 4), gv, wfn⟩ w0_l_program) (xs := iota 0 z) (δ := [some (.lst (ns.map D.int)), some (.int m), some (.lst tk), some (.int z), some (.lst []), none, o6, none, none])
      (fun j δ => ∃ (rows : List Row) (o5 o7 : Option D), δ = [some (.lst (ns.map D.int)), some (.int m), some (.lst tk), some (.int z), some (.lst (rows.map Row.d)), o5, o6, o7, none] ∧ rows.length = j ∧ ∀ r ∈ rows, OkR m z r) (by
        rintro j x δ hx ⟨rows, o5, o7, rfl, rl, ro⟩
        obtain ⟨rfl, hj⟩ := iota_at hx
        obtain ⟨a, b, c, d, e4⟩ := cells4 ⟨callF tab gv wfn (k + 4), gv, wfn⟩ (.cal .any f_l_cell_at (.cons (.var 0) (.cons (.bin .add (.bin .add (.cst (.int 4)) (.bin .mul (.cst (.int 4)) (.var 5))) (.var 8)) .nil))) [some (.lst (ns.map D.int)), some (.int m), some (.lst tk), some (.int z), some (.lst (rows.map Row.d)), some (.int j), o6, o7, none] 8 (fun i hi => by
          obtain ⟨q, eq⟩ := c_cell_at (k + 3) ns (4 + 4 * j + i)
          simp only [Int.natCast_add, Int.natCast_mul, Int.cast_ofNat_Int] at eq
          exact ⟨q, by simp [eq]⟩)
        obtain ⟨r, hr, er⟩ := c_row_by k a b c d m z j (by omega) (by omega) hj
        have l : rows.length < 16777216 := by omega
        have ok4 : okI 4 = true := by decide
        refine ⟨[some (.lst (ns.map D.int)), some (.int m), some (.lst tk), some (.int z), some (.lst ((rows ++ [r]).map Row.d)), some (.int j), o6, some (.lst [.int a, .int b, .int c, .int d]), none], by simp [w0_l_program, ok4, wipeD, Tg.slots, e4, er, l], rows ++ [r], _, _, rfl, by simp [rl], fun q hq => ?_⟩
        rcases List.mem_append.mp hq with hq | hq
        · exact ro q hq
        · rw [List.mem_singleton.mp hq]; exact hr) ⟨[], none, none, rfl, rfl, by simp⟩
    rw [iota_length] at rl
    exact ⟨rows, o5, o7, f2, rl, ro⟩
  have hk1 : okI (z : Int) = true := by simp only [okI, Bool.and_eq_true, decide_eq_true_eq]; omega
  cases hp : decide ((m : Int) > 0) with
  | true =>
    have hp' : 0 < m := by have := of_decide_eq_true hp; omega
    obtain ⟨rows, o5, o7, fl, rl, ro⟩ := loop [.tup [.int lo, .int hi]] (some (.lst [.int lo, .int hi]))
    refine ⟨⟨[.tup [.int lo, .int hi]], m, rows⟩, ⟨fun r hr => by rw [rl]; exact ro r hr, by simp [rl]; omega⟩, by simp [rl]; omega, ⟨[(lo, hi)], rfl⟩, ?_⟩
    simp [d_l_program, b_l_program, e0, e1, e2, e3, f1, f2, fs, ← hm, hp', fM, fw, fz, hk1, fl, Pgm.d, -bi_min, -bi_max]
  | false =>
    have hp' : ¬ 0 < m := by have := of_decide_eq_false hp; omega
    obtain ⟨rows, o5, o7, fl, rl, ro⟩ := loop [] none
    refine ⟨⟨[], m, rows⟩, ⟨fun r hr => by rw [rl]; exact ro r hr, by simp [rl]; omega⟩, by simp [rl]; omega, ⟨[], rfl⟩, ?_⟩
    simp [d_l_program, b_l_program, e0, e1, e2, e3, f1, f2, fs, ← hm, hp', fM, fw, fz, hk1, fl, Pgm.d, -bi_min, -bi_max]
/-! ### two fakes with one code -/
theorem eqvs_tk : ∀ tk : List (Int × Int), D.eqvs (tk.map tk1) (tk.map tk1) = true
  | [] => rfl
  | x :: tk => by simp [tk1, D.eqvs, eqvs_tk tk]
theorem eqvs_rows : ∀ a b : List Row, D.eqvs (a.map Row.d) (b.map Row.d) = decide (a = b)
  | [], [] => rfl
  | [], _ :: _ => rfl
  | _ :: _, [] => rfl
  | r :: a, s :: b => by
    rw [List.map_cons, List.map_cons, D.eqvs, row_eqv, eqvs_rows a b]
    simp
theorem pgm_eqv {P Q : Pgm} {tk : List (Int × Int)} (h1 : P.takes = tk.map tk1) (h2 : Q.takes = tk.map tk1) (h3 : P.many = Q.many) : D.eqv P.d Q.d = decide (P.rows = Q.rows) := by
  unfold Pgm.d
  rw [eqv_tt, h1, h2, h3]
  simp [D.eqvs, eqvs_tk, eqvs_rows]
theorem opd_okn (o : Opd) (n : Nat) : okN (n + 1) o.d = true := okO n o
theorem row_okn {m l : Nat} {r : Row} (h : OkR m l r) (n : Nat) : okN (n + 2) r.d = true := by
  have o1 := okPut
  have o2 := okIf
  have o3 := okGo
  have o4 := okSkip
  have o5 := okTell
  cases r with
  | put x a s b => simp [Row.d, okN_tup, o1, okSums h.2.2.2, opd_okn]
  | iff a s b t => simp [Row.d, okN_tup, o2, okLooks h.2.2.2, opd_okn]
  | go t => simp [Row.d, okN_tup, o3]
  | skip => simp [Row.d, okN_tup, o4]
  | tell a => simp [Row.d, okN_tup, o5, opd_okn]
theorem pgm_okn {P : Pgm} (hP : OkP P) {tk : List (Int × Int)} (h1 : P.takes = tk.map tk1) (n : Nat) : okN (n + 4) P.d = true := by
  unfold Pgm.d
  have e1 : (tk.map tk1).all (okN (n + 2)) = true := by
    rw [List.all_map]
    exact List.all_eq_true.mpr fun x _ => by simp [tk1, okN_tup]
  have e2 : (P.rows.map Row.d).all (okN (n + 2)) = true := by
    rw [List.all_map]
    exact List.all_eq_true.mpr fun x hx => row_okn (hP.rows x hx) n
  simp [okN_tup, h1, e1, e2]
def cod (p : Pgm) (x : FX) : Pgm := madeP (fakeP p x.1 x.2.2)
theorem cod_at (p : Pgm) (x : FX) (i : Nat) : (cod p x).rows[i]? = if x.1 = i ∧ i < p.rows.length then some (thr x) else p.rows[i]?.map fun r => mrow r i := by
  unfold cod
  rw [madeP_at]
  show ((p.rows.set x.1 x.2.2)[i]?).map _ = _
  by_cases h : x.1 = i
  · by_cases h2 : i < p.rows.length
    · subst h
      rw [List.getElem?_set_self h2, if_pos ⟨rfl, h2⟩]; rfl
    · rw [if_neg fun z => h2 z.2, List.getElem?_eq_none (by simp; omega), List.getElem?_eq_none (by omega)]
  · rw [List.getElem?_set_ne h, if_neg fun z => h z.1]
theorem cod_same {p : Pgm} (hp : OkP p) {x : FX} (hx : x ∈ fkP p.rows) : decide ((cod p x).rows = (madeP p).rows) = sameF p.rows x := by
  obtain ⟨_, r, hr, _⟩ := w_row hp hx
  have hk : x.1 < p.rows.length := (List.getElem?_eq_some_iff.mp hr).1
  have gd : p.rows.getD x.1 .skip = r := by rw [List.getD_eq_getElem?_getD, hr]; rfl
  unfold sameF
  rw [gd]
  refine decide_eq_decide.mpr ⟨fun h => ?_, fun h => List.ext_getElem? fun i => ?_⟩
  · have h1 := cod_at p x x.1
    rw [h, if_pos ⟨rfl, hk⟩, madeP_at, hr] at h1
    exact (Option.some.inj h1).symm
  · rw [cod_at, madeP_at]
    split
    · rename_i q
      obtain ⟨rfl, _⟩ := q
      rw [hr, h]; rfl
    · rfl
theorem cod_key {p : Pgm} (hp : OkP p) {x y : FX} (hx : x ∈ fkP p.rows) (hy : y ∈ fkP p.rows) (sy : sameF p.rows y = false) : decide ((cod p y).rows = (cod p x).rows) = keq y x := by
  obtain ⟨_, r, hr, _⟩ := w_row hp hx
  obtain ⟨_, s, hs, _⟩ := w_row hp hy
  have kx : x.1 < p.rows.length := (List.getElem?_eq_some_iff.mp hr).1
  have ky : y.1 < p.rows.length := (List.getElem?_eq_some_iff.mp hs).1
  have gd : p.rows.getD y.1 .skip = s := by rw [List.getD_eq_getElem?_getD, hs]; rfl
  unfold sameF at sy
  rw [gd] at sy
  have sy := of_decide_eq_false sy
  unfold keq
  rw [← Bool.decide_and]
  refine decide_eq_decide.mpr ⟨fun h => ?_, fun ⟨h1, h2⟩ => List.ext_getElem? fun i => ?_⟩
  · have h1 := cod_at p y y.1
    rw [h, if_pos ⟨rfl, ky⟩, cod_at] at h1
    split at h1
    · rename_i q
      exact ⟨q.1.symm, (Option.some.inj h1).symm⟩
    · rw [hs] at h1
      exact absurd (Option.some.inj h1).symm sy
  · rw [cod_at, cod_at, h1, h2]
theorem cod_ok {p : Pgm} (hp : OkP p) {x : FX} (hx : x ∈ fkP p.rows) : OkP (cod p x) := madeP_ok (fake_ok hp hx).1
/-! ### the law's own groups -/
section
variable {p : Pgm} {tk : List (Int × Int)}
theorem cod_eqv (hp : OkP p) (ht : p.takes = tk.map tk1) {x y : FX} (hx : x ∈ fkP p.rows) (hy : y ∈ fkP p.rows) (sy : sameF p.rows y = false) : D.eqv (cod p y).d (cod p x).d = keq y x := by
  rw [pgm_eqv (P := cod p y) (Q := cod p x) ht ht rfl, cod_key hp hx hy sy]
theorem idx_gr (hp : OkP p) (ht : p.takes = tk.map tk1) {x : FX} (hx : x ∈ fkP p.rows) : ∀ st : List (FX × List Nat), (∀ y ∈ st, y.1 ∈ fkP p.rows ∧ sameF p.rows y.1 = false) → idxD (cod p x).d (st.map fun y => (cod p y.1).d) = gix x st ∧ dIn (cod p x).d (st.map fun y => (cod p y.1).d) = (gix x st).isSome
  | [], _ => ⟨rfl, rfl⟩
  | y :: st, h => by
    obtain ⟨h1, h2⟩ := idx_gr hp ht hx st fun z hz => h z (List.mem_cons_of_mem _ hz)
    obtain ⟨a, b⟩ := h y List.mem_cons_self
    have e := cod_eqv hp ht hx a b
    refine ⟨?_, ?_⟩
    · show (if D.eqv (cod p y.1).d (cod p x).d = true then some 0 else (idxD (cod p x).d (st.map fun y => (cod p y.1).d)).map (· + 1)) = _
      rw [e, h1]; rfl
    · show (D.eqv (cod p y.1).d (cod p x).d || dIn (cod p x).d (st.map fun y => (cod p y.1).d)) = _
      rw [e, h2]
      show _ = (if keq y.1 x = true then some 0 else (gix x st).map (· + 1)).isSome
      cases keq y.1 x
      · simp [Option.isSome_map]
      · rfl
theorem onAn_ok {ds xs : List D} {m : Nat} {v : D} {i : Nat} {δ : PV.Env} (h : ds[m]? = some (.lst xs)) (l : xs.length < sizeLine) : onAn (.nst ds) (.int m) v i δ = .ok (.nx (δ.set i (some (.nst (ds.set m (.lst (xs ++ [v]))))))) := by
  have hm : m < ds.length := (List.getElem?_eq_some_iff.mp h).1
  have e : ixN ds.length (m : Int) = some m := by
    unfold ixN
    rw [if_pos (Int.natCast_nonneg m), if_pos (by omega)]; rfl
  simp only [onAn, e, h, if_pos l]
theorem in_lst (d : D) (xs : List D) : dCmp .inn d (.lst xs) = if (okN 60 d && xs.all (okN 60)) = true then .ok (.bl (dIn d xs)) else .st := by cases d <;> rfl
def cdD (p : Pgm) (st : List (FX × List Nat)) : D := .lst (st.map fun y => (cod p y.1).d)
def gpD (st : List (FX × List Nat)) : D := .nst (st.map fun y => .lst (nl y.2))
theorem cod_okn (hp : OkP p) (ht : p.takes = tk.map tk1) {x : FX} (hx : x ∈ fkP p.rows) : okN 60 (cod p x).d = true := pgm_okn (cod_ok hp hx) (tk := tk) ht 56
theorem law_turn (k : Nat) (hp : OkP p) (ht : p.takes = tk.map tk1) {x : FX} (hx : x ∈ fkP p.rows) (n : Nat) (t : TwS) (hn : n < 100000) (ok : TwOk p.rows n t) (s : D) (o10 o11 : Option D) :
    ∃ o10', exB ⟨callF tab gv wfn (k + 5), gv, wfn⟩ w0_law [some s, some p.d, some (madeP p).d, some (.lst (nl t.1)), some (cdD p t.2), some (gpD t.2), some (.int n), some (.int x.1), some (.str x.2.1), some x.2.2.d, o10, o11] =
      .ok (.nx [some s, some p.d, some (madeP p).d, some (.lst (nl (twStep p.rows t n x).1)), some (cdD p (twStep p.rows t n x).2), some (gpD (twStep p.rows t n x).2), some (.int (n + 1 : Nat)), some (.int x.1), some (.str x.2.1), some x.2.2.d, o10', o11]) := by
  obtain ⟨hf, hk⟩ := fake_ok hp hx
  have e1 := c_fake_of (k + 4) p x.1 x.2.2 hk hp.len
  have e2 := c_made k hf
  have e3 : dCmp .eq (cod p x).d (madeP p).d = .ok (.bl (sameF p.rows x)) := by
    have q := cod_same hp hx
    rw [← q, ← pgm_eqv (P := cod p x) (Q := madeP p) (tk := tk) ht ht rfl]
    have a := cod_okn hp ht hx
    have b := pgm_okn (madeP_ok hp) (tk := tk) ht 56
    unfold Pgm.d at a b ⊢
    rw [cmp_eqT, a, b, eqv_tt]; rfl
  have l1 := ok.l1
  have l2 := ok.l2
  have hst : ∀ y ∈ t.2, y.1 ∈ fkP p.rows ∧ sameF p.rows y.1 = false := fun y hy => (ok.l3 y hy).2
  obtain ⟨i1, i2⟩ := idx_gr hp ht hx t.2 hst
  have all : (t.2.map fun y => (cod p y.1).d).all (okN 60) = true := by
    rw [List.all_map]
    exact List.all_eq_true.mpr fun y hy => cod_okn hp ht (hst y hy).1
  have e4 : dCmp .inn (cod p x).d (cdD p t.2) = .ok (.bl (gix x t.2).isSome) := by
    unfold cdD
    rw [in_lst, if_pos (by rw [cod_okn hp ht hx, all]; rfl), i2]
  refine ⟨some (cod p x).d, ?_⟩
  have em : callF tab gv wfn (k + 5) f_made [(fakeP p x.1 x.2.2).d] = .ok (cod p x).d := e2
  cases c : sameF p.rows x with
  | true =>
    rw [c] at e3
    have lt : t.1.length < 16777216 := by omega
    simp [w0_law, e1, em, e3, twStep, c, lt]
  | false =>
    rw [c] at e3
    cases g : gix x t.2 with
    | none =>
      rw [g] at e4 i1
      have lt : t.2.length < 16777216 := by omega
      have e5 : onA (cdD p t.2) (cod p x).d 4 = fun δ => .ok (.nx (δ.set 4 (some (cdD p (t.2 ++ [(x, [n])]))))) := by
        funext δ
        simp [cdD, lt]
      have e6 : onAl (gpD t.2) (.lst [.int n]) 5 = fun δ => .ok (.nx (δ.set 5 (some (gpD (t.2 ++ [(x, [n])]))))) := by
        funext δ
        simp [gpD, lt]
      simp [w0_law, e1, em, e3, e4, twStep, c, gput, g, e5, e6]
    | some m =>
      rw [g] at e4 i1
      obtain ⟨y, hy, _⟩ := gix_at g
      have lt : y.2.length < 16777216 := by have := (ok.l3 y (List.mem_of_getElem? hy)).1; omega
      have e5 : onLx (cdD p t.2) (cod p x).d = .ok (.int m) := by
        simp only [onLx, cdD, cod_okn hp ht hx, all, Bool.and_self, if_true, i1]
      have e6 : ∀ δ, onAn (gpD t.2) (.int m) (.int n) 5 δ = .ok (.nx (δ.set 5 (some (gpD (t.2.set m (y.1, y.2 ++ [n])))))) := fun δ => by
        unfold gpD
        rw [onAn_ok (xs := nl y.2) (by rw [List.getElem?_map, hy]; rfl) (by simpa using lt)]
        simp [List.map_set]
      have e7 : cdD p (t.2.set m (y.1, y.2 ++ [n])) = cdD p t.2 := by
        unfold cdD
        rw [List.map_set]
        congr 1
        apply List.ext_getElem?
        intro i
        by_cases hi : m = i
        · subst hi
          rw [List.getElem?_set_self (by simp; exact (List.getElem?_eq_some_iff.mp hy).1), List.getElem?_map, hy]; rfl
        · rw [List.getElem?_set_ne hi]
      simp [w0_law, e1, em, e3, e4, twStep, c, gput, g, hy, e5, e6, e7]
theorem law_loop (k : Nat) (hp : OkP p) (ht : p.takes = tk.map tk1) (s : D) (o11 : Option D) : ∀ (l : List FX) (n : Nat) (t : TwS), (∀ x ∈ l, x ∈ fkP p.rows) → n + l.length < 100000 → TwOk p.rows n t → ∀ o7 o8 o9 o10 : Option D,
    ∃ o7' o8' o9' o10', forL (.many [7, 8, 9]) (exB ⟨callF tab gv wfn (k + 5), gv, wfn⟩ w0_law) (l.map fkD) [some s, some p.d, some (madeP p).d, some (.lst (nl t.1)), some (cdD p t.2), some (gpD t.2), some (.int n), o7, o8, o9, o10, o11] =
      .ok (.nx [some s, some p.d, some (madeP p).d, some (.lst (nl (tw p.rows l n t).1)), some (cdD p (tw p.rows l n t).2), some (gpD (tw p.rows l n t).2), some (.int (n + l.length : Nat)), o7', o8', o9', o10', o11])
  | [], n, t, _, _, _, o7, o8, o9, o10 => ⟨o7, o8, o9, o10, rfl⟩
  | x :: l, n, t, hl, hn, ok, o7, o8, o9, o10 => by
    rw [List.length_cons] at hn
    obtain ⟨a10, e1⟩ := law_turn k hp ht (hl x List.mem_cons_self) n t (by omega) ok s o10 o11
    obtain ⟨b7, b8, b9, b10, e2⟩ := law_loop k hp ht s o11 l (n + 1) (twStep p.rows t n x) (fun y hy => hl y (List.mem_cons_of_mem _ hy)) (by omega) (gput_ok ok (hl x List.mem_cons_self)) (some (.int x.1)) (some (.str x.2.1)) (some x.2.2.d) a10
    refine ⟨b7, b8, b9, b10, ?_⟩
    rw [List.map_cons, forL_cons]
    have et : tset1 (.many [7, 8, 9]) (fkD x) [some s, some p.d, some (madeP p).d, some (.lst (nl t.1)), some (cdD p t.2), some (gpD t.2), some (.int n), o7, o8, o9, o10, o11] = .ok [some s, some p.d, some (madeP p).d, some (.lst (nl t.1)), some (cdD p t.2), some (gpD t.2), some (.int n), some (.int x.1), some (.str x.2.1), some x.2.2.d, o10, o11] := rfl
    rw [et, Rs.ok_bind, e1, Rs.ok_bind, onL_nx, e2, List.length_cons, show n + (l.length + 1) = n + 1 + l.length by omega]
    rfl
end
theorem twD_pl {rows : List Row} {n : Nat} {t : TwS} (h : TwOk rows n t) (hn : n ≤ 100000) : plD 3 (twD t) = true := by
  have l1 := h.l1
  have l2 := h.l2
  have a : ∀ (k : Nat) (l : List Nat), (nl l).all (plD k) = true := fun k l => by
    rw [nl, List.all_map]
    exact List.all_eq_true.mpr fun x _ => plD_int k x
  have b : (t.2.map fun y => D.tup (nl y.2)).all (plD 1) = true := by
    rw [List.all_map]
    refine List.all_eq_true.mpr fun y hy => ?_
    have := (h.l3 y hy).1
    simp [plD_tup, a]
    omega
  simp [twD, plD_tup, a, b]
  omega
set_option maxHeartbeats 4000000 in
theorem holds (ns : List Int) (h : ns.length ≤ 63) : runD (PV.Mk tab gv wfn lev) d_law.N.length d_law.body [.lst (ns.map D.int)] = .ok (.bl true) := by
  obtain ⟨p, hp, lr, ⟨tk, ht⟩, e1⟩ := c_program 11 ns
  have e2 := c_made 11 hp
  have e3 := c_fakes 13 hp
  have e4 := c_twins 11 hp
  have hl := fkP_len p.rows
  have ok := twP_ok (p := p)
  obtain ⟨o7, o8, o9, o10, e5⟩ := law_loop 11 hp ht (.lst (ns.map D.int)) none (fkP p.rows) 0 ([], []) (fun x h => h) (by omega) ⟨by simp, by simp, by simp⟩ none none none none
  have e6 : compL (.one 11) (evc ⟨callF tab gv wfn 16, gv, wfn⟩ .no) (ev ⟨callF tab gv wfn 16, gv, wfn⟩ (.bi .tuple1 (.cons (.var 11) .nil))) ((twP p).2.map fun y => D.lst (nl y.2)) (wipeD [some (.lst (ns.map D.int)), some p.d, some (madeP p).d, some (.lst (nl (twP p).1)), some (cdD p (twP p).2), some (gpD (twP p).2), some (.int (0 + (fkP p.rows).length : Nat)), o7, o8, o9, o10, none] [11]) = .ok ((twP p).2.map fun y => D.tup (nl y.2)) :=
    compL_map (fun y : FX × List Nat => D.lst (nl y.2)) (fun y => D.tup (nl y.2)) _ (twP p).2 fun y hy => ⟨_, rfl, rfl, by simp [wipeD]⟩
  have l2 : (twP p).2.length ≤ 16777216 := by have := ok.l2; omega
  have e7 := c_lalike 3 12 (twD (twP p)) (twD_pl ok (by omega))
  have e8 : ev ⟨callF tab gv wfn 16, gv, wfn⟩ (.lc (.one 11) (.val (.var 5)) .no (.bi .tuple1 (.cons (.var 11) .nil))) [some (.lst (ns.map D.int)), some p.d, some (madeP p).d, some (.lst (nl (twP p).1)), some (cdD p (twP p).2), some (gpD (twP p).2), some (.int (0 + (fkP p.rows).length : Nat)), o7, o8, o9, o10, none] = .ok (.lst ((twP p).2.map fun y => D.tup (nl y.2))) := by
    rw [ev_lc, evr_val, ev_var]
    simp only [vget_s, vget_0, Rs.ok_bind]
    show ((Rs.ok ((twP p).2.map fun y => D.lst (nl y.2))) >>= _) = _
    rw [Rs.ok_bind]
    show (compL (.one 11) _ _ _ (wipeD _ [11]) >>= _) = _
    rw [e6, Rs.ok_bind, if_pos (by rw [List.length_map]; exact l2)]
  have hn : d_law.N.length = 12 := rfl
  have hM : PV.Mk tab gv wfn lev = ⟨callF tab gv wfn 16, gv, wfn⟩ := rfl
  have e5' : forL (.many [7, 8, 9]) (exB ⟨callF tab gv wfn 16, gv, wfn⟩ w0_law) ((fkP p.rows).map fkD) [some (.lst (ns.map D.int)), some p.d, some (madeP p).d, some (.lst []), some (.lst []), some (.nst []), some (.int 0), none, none, none, none, none] = _ := e5
  rw [hM, runD_eq]
  simp only [twD] at e7
  simp only [Nat.zero_add] at e8 e5'
  have w1 : (tw p.rows (fkP p.rows) 0 ([], [])) = twP p := rfl
  rw [w1] at e5'
  simp [d_law, b_law, e1, e2, e3, e4, e5', -ev_lc, e8, e7, twD, l2]
end Lw
namespace Lw
open PySem PySem.Spec PyProof.Rows L2 PV
theorem bn_l_program : BindN "_law_program" s_l_program ["_law_script"] := fun _ _ _ _ _ _ us hl => match us, hl with | [_], _ => rfl
theorem bn_l_cell_at : BindN "_law_cell_at" s_l_cell_at ["_law_script", "_law_k"] := fun _ _ _ _ _ _ us hl => match us, hl with | [_, _], _ => rfl
theorem bn_l_number_by : BindN "_law_number_by" s_l_number_by ["_law_cell"] := fun _ _ _ _ _ _ us hl => match us, hl with | [_], _ => rfl
theorem bn_l_row_by : BindN "_law_row_by" s_l_row_by ["_law_cells", "_law_names", "_law_many", "_law_at"] := fun _ _ _ _ _ _ us hl => match us, hl with | [_, _, _, _], _ => rfl
theorem bn_l_operands_by : BindN "_law_operands_by" s_l_operands_by ["_law_cells", "_law_names"] := fun _ _ _ _ _ _ us hl => match us, hl with | [_, _], _ => rfl
theorem bn_l_operand_by : BindN "_law_operand_by" s_l_operand_by ["_law_cell", "_law_names"] := fun _ _ _ _ _ _ us hl => match us, hl with | [_, _], _ => rfl
theorem bn_made : BindN "made" s_made ["program"] := fun _ _ _ _ _ _ us hl => match us, hl with | [_], _ => rfl
theorem bn_made_row : BindN "made_row" s_made_row ["row", "k"] := fun _ _ _ _ _ _ us hl => match us, hl with | [_, _], _ => rfl
theorem bn_made_put : BindN "made_put" s_made_put ["x", "y", "sign", "z"] := fun _ _ _ _ _ _ us hl => match us, hl with | [_, _, _, _], _ => rfl
theorem bn_reckon : BindN "reckon" s_reckon ["one", "sign", "other"] := fun _ _ _ _ _ _ us hl => match us, hl with | [_, _, _], _ => rfl
theorem bn_around : BindN "around" s_around ["number"] := fun _ _ _ _ _ _ us hl => match us, hl with | [_], _ => rfl
theorem bn_comes_to_nought : BindN "comes_to_nought" s_comes_to_nought ["y", "sign", "z"] := fun _ _ _ _ _ _ us hl => match us, hl with | [_, _, _], _ => rfl
theorem bn_made_if : BindN "made_if" s_made_if ["y", "sign", "z", "t"] := fun _ _ _ _ _ _ us hl => match us, hl with | [_, _, _, _], _ => rfl
theorem bn_is_so : BindN "is_so" s_is_so ["one", "sign", "other"] := fun _ _ _ _ _ _ us hl => match us, hl with | [_, _, _], _ => rfl
theorem bn_less_than : BindN "less_than" s_less_than ["y", "z", "t"] := fun _ _ _ _ _ _ us hl => match us, hl with | [_, _, _], _ => rfl
theorem bn_fakes : BindN "fakes" s_fakes ["program"] := fun _ _ _ _ _ _ us hl => match us, hl with | [_], _ => rfl
theorem bn_Sign_turned : BindQ "turned" "Sign.turned" s_Sign_turned ["self", "row", "many"] := fun _ _ _ _ _ _ us hl => match us, hl with | [_, _, _], _ => rfl
theorem bn_put_at : BindN "put_at" s_put_at ["row", "at", "thing"] := fun _ _ _ _ _ _ us hl => match us, hl with | [_, _, _], _ => rfl
theorem bn_next_sign : BindN "next_sign" s_next_sign ["sign", "ring"] := fun _ _ _ _ _ _ us hl => match us, hl with | [_, _], _ => rfl
theorem bn_More_turned : BindQ "turned" "More.turned" s_More_turned ["self", "row", "many"] := fun _ _ _ _ _ _ us hl => match us, hl with | [_, _, _], _ => rfl
theorem bn_operand_places : BindN "operand_places" s_operand_places ["row"] := fun _ _ _ _ _ _ us hl => match us, hl with | [_], _ => rfl
theorem bn_Turn_turned : BindQ "turned" "Turn.turned" s_Turn_turned ["self", "row", "many"] := fun _ _ _ _ _ _ us hl => match us, hl with | [_, _, _], _ => rfl
theorem bn_Out_turned : BindQ "turned" "Out.turned" s_Out_turned ["self", "row", "many"] := fun _ _ _ _ _ _ us hl => match us, hl with | [_, _, _], _ => rfl
theorem bn_Swap_turned : BindQ "turned" "Swap.turned" s_Swap_turned ["self", "row", "many"] := fun _ _ _ _ _ _ us hl => match us, hl with | [_, _, _], _ => rfl
theorem bn_Far_turned : BindQ "turned" "Far.turned" s_Far_turned ["self", "row", "many"] := fun _ _ _ _ _ _ us hl => match us, hl with | [_, _, _], _ => rfl
theorem bn_Sign_word : BindQ "word" "Sign.word" s_Sign_word ["self"] := fun _ _ _ _ _ _ us hl => match us, hl with | [_], _ => rfl
theorem bn_More_word : BindQ "word" "More.word" s_More_word ["self"] := fun _ _ _ _ _ _ us hl => match us, hl with | [_], _ => rfl
theorem bn_Turn_word : BindQ "word" "Turn.word" s_Turn_word ["self"] := fun _ _ _ _ _ _ us hl => match us, hl with | [_], _ => rfl
theorem bn_Out_word : BindQ "word" "Out.word" s_Out_word ["self"] := fun _ _ _ _ _ _ us hl => match us, hl with | [_], _ => rfl
theorem bn_Swap_word : BindQ "word" "Swap.word" s_Swap_word ["self"] := fun _ _ _ _ _ _ us hl => match us, hl with | [_], _ => rfl
theorem bn_Far_word : BindQ "word" "Far.word" s_Far_word ["self"] := fun _ _ _ _ _ _ us hl => match us, hl with | [_], _ => rfl
theorem bn_fake_of : BindN "fake_of" s_fake_of ["program", "k", "row"] := fun _ _ _ _ _ _ us hl => match us, hl with | [_, _, _], _ => rfl
theorem bn_l_alike : BindN "_law_alike" s_l_alike ["_law_found", "_law_due"] := fun _ _ _ _ _ _ us hl => match us, hl with | [_, _], _ => rfl
theorem bn_twins : BindN "twins" s_twins ["program"] := fun _ _ _ _ _ _ us hl => match us, hl with | [_], _ => rfl
theorem bn_law : BindN "law" s_law ["_law_script"] := fun _ _ _ _ _ _ us hl => match us, hl with | [_], _ => rfl
theorem ck_tab : (tab.all fun e => chkD tab gl bl ci e.d) = true := by decide +kernel
theorem ck_law : chkD tab gl bl ci d_law = true := by decide +kernel
theorem ck_hot : chkHs tab gl bl ci = true := by decide +kernel
theorem law_end {l : PySem.W.OpenLaw} {w : World} {K : PySem.W.Frag} {h : Heap} {mg : Str → Option Value} {fa : Addr} (X : K.In h) (N : h.Ns mainGlobals mg) (hfa : mg "law" = some (.ref fa)) (c : SaysY faL fnL tsL Lw.exF w K) :
    ∃ fd : FuncData, (∀ (s : Shared) (u : Value), BindsTo s fd ⟨[u], []⟩ [("_law_script", u)]) ∧ ∀ base : Heap, K.In base → base.Ns mainGlobals mg → FnOk l.prog w K mg base (L2N.CX l.prog w) (lev + 3) fa fd ["_law_script"] (spLaw K) := by
  have hQ : AllQ (fun x => Cls K ((clAt [He.ga K "Sign", He.ga K "More", He.ga K "Turn", He.ga K "Out", He.ga K "Swap", He.ga K "Far"]) x.1) ∧ PySem.W.findIn K (.ref ((clAt [He.ga K "Sign", He.ga K "More", He.ga K "Turn", He.ga K "Out", He.ga K "Swap", He.ga K "Far"]) x.1)) x.2.1 = some (some (.ref (clAt [0, 0, 0, 0, 0, 0, 0, 0, 0, 0, 0, 0, 0, 0, 0, 0, He.ma K (He.ga K "Sign") "turned", 0, 0, He.ma K (He.ga K "More") "turned", 0, He.ma K (He.ga K "Turn") "turned", He.ma K (He.ga K "Out") "turned", He.ma K (He.ga K "Swap") "turned", He.ma K (He.ga K "Far") "turned", He.ma K (He.ga K "Sign") "word", He.ma K (He.ga K "More") "word", He.ma K (He.ga K "Turn") "word", He.ma K (He.ga K "Out") "word", He.ma K (He.ga K "Swap") "word", He.ma K (He.ga K "Far") "word"] x.2.2)))) ci.ms := (AllQ.cons (⟨(clsB_ok (exAt c.more 0 rfl)).mko.cl, (mthB_ok (exAt c.more 6 rfl)).1⟩) (AllQ.cons (⟨(clsB_ok (exAt c.more 1 rfl)).mko.cl, (mthB_ok (exAt c.more 7 rfl)).1⟩) (AllQ.cons (⟨(clsB_ok (exAt c.more 2 rfl)).mko.cl, (mthB_ok (exAt c.more 8 rfl)).1⟩) (AllQ.cons (⟨(clsB_ok (exAt c.more 3 rfl)).mko.cl, (mthB_ok (exAt c.more 9 rfl)).1⟩) (AllQ.cons (⟨(clsB_ok (exAt c.more 4 rfl)).mko.cl, (mthB_ok (exAt c.more 10 rfl)).1⟩) (AllQ.cons (⟨(clsB_ok (exAt c.more 5 rfl)).mko.cl, (mthB_ok (exAt c.more 11 rfl)).1⟩) (AllQ.cons (⟨(clsB_ok (exAt c.more 0 rfl)).mko.cl, (mthB_ok (exAt c.more 12 rfl)).1⟩) (AllQ.cons (⟨(clsB_ok (exAt c.more 1 rfl)).mko.cl, (mthB_ok (exAt c.more 13 rfl)).1⟩) (AllQ.cons (⟨(clsB_ok (exAt c.more 2 rfl)).mko.cl, (mthB_ok (exAt c.more 14 rfl)).1⟩) (AllQ.cons (⟨(clsB_ok (exAt c.more 3 rfl)).mko.cl, (mthB_ok (exAt c.more 15 rfl)).1⟩) (AllQ.cons (⟨(clsB_ok (exAt c.more 4 rfl)).mko.cl, (mthB_ok (exAt c.more 16 rfl)).1⟩) (AllQ.cons (⟨(clsB_ok (exAt c.more 5 rfl)).mko.cl, (mthB_ok (exAt c.more 17 rfl)).1⟩) AllQ.nil))))))))))))
  exact fin_okE (d := d_law) (tab := tab) (gl := gl) (bl := bl) (ci := ci) (gv := gv) (PV.wd K w (clAt [He.ga K "Sign", He.ga K "More", He.ga K "Turn", He.ga K "Out", He.ga K "Swap", He.ga K "Far"]) ) rfl rfl X N hfa (AllI.cons (entE (K := K) (x := "_law_program") (nm := "_law_program") (st := s_l_program) X N (c.t.d.fact 0 rfl) (c.t.d.def_ 0 (d := fd_l_program) rfl) bn_l_program rfl rfl rfl rfl) (AllI.cons (entE (K := K) (x := "_law_cell_at") (nm := "_law_cell_at") (st := s_l_cell_at) X N (c.t.d.fact 1 rfl) (c.t.d.def_ 1 (d := fd_l_cell_at) rfl) bn_l_cell_at rfl rfl rfl rfl) (AllI.cons (entE (K := K) (x := "_law_number_by") (nm := "_law_number_by") (st := s_l_number_by) X N (c.t.d.fact 2 rfl) (c.t.d.def_ 2 (d := fd_l_number_by) rfl) bn_l_number_by rfl rfl rfl rfl) (AllI.cons (entE (K := K) (x := "_law_row_by") (nm := "_law_row_by") (st := s_l_row_by) X N (c.t.d.fact 3 rfl) (c.t.d.def_ 3 (d := fd_l_row_by) rfl) bn_l_row_by rfl rfl rfl rfl) (AllI.cons (entE (K := K) (x := "_law_operands_by") (nm := "_law_operands_by") (st := s_l_operands_by) X N (c.t.d.fact 4 rfl) (c.t.d.def_ 4 (d := fd_l_operands_by) rfl) bn_l_operands_by rfl rfl rfl rfl) (AllI.cons (entE (K := K) (x := "_law_operand_by") (nm := "_law_operand_by") (st := s_l_operand_by) X N (c.t.d.fact 5 rfl) (c.t.d.def_ 5 (d := fd_l_operand_by) rfl) bn_l_operand_by rfl rfl rfl rfl) (AllI.cons (entE (K := K) (x := "made") (nm := "made") (st := s_made) X N (c.t.d.fact 6 rfl) (c.t.d.def_ 6 (d := fd_made) rfl) bn_made rfl rfl rfl rfl) (AllI.cons (entE (K := K) (x := "made_row") (nm := "made_row") (st := s_made_row) X N (c.t.d.fact 7 rfl) (c.t.d.def_ 7 (d := fd_made_row) rfl) bn_made_row rfl rfl rfl rfl) (AllI.cons (entE (K := K) (x := "made_put") (nm := "made_put") (st := s_made_put) X N (c.t.d.fact 8 rfl) (c.t.d.def_ 8 (d := fd_made_put) rfl) bn_made_put rfl rfl rfl rfl) (AllI.cons (entE (K := K) (x := "reckon") (nm := "reckon") (st := s_reckon) X N (c.t.d.fact 9 rfl) (c.t.d.def_ 9 (d := fd_reckon) rfl) bn_reckon rfl rfl rfl rfl) (AllI.cons (entE (K := K) (x := "around") (nm := "around") (st := s_around) X N (c.t.d.fact 10 rfl) (c.t.d.def_ 10 (d := fd_around) rfl) bn_around rfl rfl rfl rfl) (AllI.cons (entE (K := K) (x := "comes_to_nought") (nm := "comes_to_nought") (st := s_comes_to_nought) X N (c.t.d.fact 11 rfl) (c.t.d.def_ 11 (d := fd_comes_to_nought) rfl) bn_comes_to_nought rfl rfl rfl rfl) (AllI.cons (entE (K := K) (x := "made_if") (nm := "made_if") (st := s_made_if) X N (c.t.d.fact 12 rfl) (c.t.d.def_ 12 (d := fd_made_if) rfl) bn_made_if rfl rfl rfl rfl) (AllI.cons (entE (K := K) (x := "is_so") (nm := "is_so") (st := s_is_so) X N (c.t.d.fact 13 rfl) (c.t.d.def_ 13 (d := fd_is_so) rfl) bn_is_so rfl rfl rfl rfl) (AllI.cons (entE (K := K) (x := "less_than") (nm := "less_than") (st := s_less_than) X N (c.t.d.fact 14 rfl) (c.t.d.def_ 14 (d := fd_less_than) rfl) bn_less_than rfl rfl rfl rfl) (AllI.cons (entE (K := K) (x := "fakes") (nm := "fakes") (st := s_fakes) X N (c.t.d.fact 15 rfl) (c.t.d.def_ 15 (d := fd_fakes) rfl) bn_fakes rfl rfl rfl rfl) (AllI.cons (entME (K := K) (nm := "turned") (qual := "Sign.turned") (st := s_Sign_turned) (f := He.ma K (He.ga K "Sign") "turned") (c.t.d.def_ 16 (d := fd_Sign_turned) rfl) (mthB_ok (exAt c.more 6 rfl)).2 bn_Sign_turned rfl rfl rfl (ms_at 16 hQ)) (AllI.cons (entE (K := K) (x := "put_at") (nm := "put_at") (st := s_put_at) X N (c.t.d.fact 16 rfl) (c.t.d.def_ 17 (d := fd_put_at) rfl) bn_put_at rfl rfl rfl rfl) (AllI.cons (entE (K := K) (x := "next_sign") (nm := "next_sign") (st := s_next_sign) X N (c.t.d.fact 17 rfl) (c.t.d.def_ 18 (d := fd_next_sign) rfl) bn_next_sign rfl rfl rfl rfl) (AllI.cons (entME (K := K) (nm := "turned") (qual := "More.turned") (st := s_More_turned) (f := He.ma K (He.ga K "More") "turned") (c.t.d.def_ 19 (d := fd_More_turned) rfl) (mthB_ok (exAt c.more 7 rfl)).2 bn_More_turned rfl rfl rfl (ms_at 19 hQ)) (AllI.cons (entE (K := K) (x := "operand_places") (nm := "operand_places") (st := s_operand_places) X N (c.t.d.fact 18 rfl) (c.t.d.def_ 20 (d := fd_operand_places) rfl) bn_operand_places rfl rfl rfl rfl) (AllI.cons (entME (K := K) (nm := "turned") (qual := "Turn.turned") (st := s_Turn_turned) (f := He.ma K (He.ga K "Turn") "turned") (c.t.d.def_ 21 (d := fd_Turn_turned) rfl) (mthB_ok (exAt c.more 8 rfl)).2 bn_Turn_turned rfl rfl rfl (ms_at 21 hQ)) (AllI.cons (entME (K := K) (nm := "turned") (qual := "Out.turned") (st := s_Out_turned) (f := He.ma K (He.ga K "Out") "turned") (c.t.d.def_ 22 (d := fd_Out_turned) rfl) (mthB_ok (exAt c.more 9 rfl)).2 bn_Out_turned rfl rfl rfl (ms_at 22 hQ)) (AllI.cons (entME (K := K) (nm := "turned") (qual := "Swap.turned") (st := s_Swap_turned) (f := He.ma K (He.ga K "Swap") "turned") (c.t.d.def_ 23 (d := fd_Swap_turned) rfl) (mthB_ok (exAt c.more 10 rfl)).2 bn_Swap_turned rfl rfl rfl (ms_at 23 hQ)) (AllI.cons (entME (K := K) (nm := "turned") (qual := "Far.turned") (st := s_Far_turned) (f := He.ma K (He.ga K "Far") "turned") (c.t.d.def_ 24 (d := fd_Far_turned) rfl) (mthB_ok (exAt c.more 11 rfl)).2 bn_Far_turned rfl rfl rfl (ms_at 24 hQ)) (AllI.cons (entME (K := K) (nm := "word") (qual := "Sign.word") (st := s_Sign_word) (f := He.ma K (He.ga K "Sign") "word") (c.t.d.def_ 25 (d := fd_Sign_word) rfl) (mthB_ok (exAt c.more 12 rfl)).2 bn_Sign_word rfl rfl rfl (ms_at 25 hQ)) (AllI.cons (entME (K := K) (nm := "word") (qual := "More.word") (st := s_More_word) (f := He.ma K (He.ga K "More") "word") (c.t.d.def_ 26 (d := fd_More_word) rfl) (mthB_ok (exAt c.more 13 rfl)).2 bn_More_word rfl rfl rfl (ms_at 26 hQ)) (AllI.cons (entME (K := K) (nm := "word") (qual := "Turn.word") (st := s_Turn_word) (f := He.ma K (He.ga K "Turn") "word") (c.t.d.def_ 27 (d := fd_Turn_word) rfl) (mthB_ok (exAt c.more 14 rfl)).2 bn_Turn_word rfl rfl rfl (ms_at 27 hQ)) (AllI.cons (entME (K := K) (nm := "word") (qual := "Out.word") (st := s_Out_word) (f := He.ma K (He.ga K "Out") "word") (c.t.d.def_ 28 (d := fd_Out_word) rfl) (mthB_ok (exAt c.more 15 rfl)).2 bn_Out_word rfl rfl rfl (ms_at 28 hQ)) (AllI.cons (entME (K := K) (nm := "word") (qual := "Swap.word") (st := s_Swap_word) (f := He.ma K (He.ga K "Swap") "word") (c.t.d.def_ 29 (d := fd_Swap_word) rfl) (mthB_ok (exAt c.more 16 rfl)).2 bn_Swap_word rfl rfl rfl (ms_at 29 hQ)) (AllI.cons (entME (K := K) (nm := "word") (qual := "Far.word") (st := s_Far_word) (f := He.ma K (He.ga K "Far") "word") (c.t.d.def_ 30 (d := fd_Far_word) rfl) (mthB_ok (exAt c.more 17 rfl)).2 bn_Far_word rfl rfl rfl (ms_at 30 hQ)) (AllI.cons (entE (K := K) (x := "fake_of") (nm := "fake_of") (st := s_fake_of) X N (c.t.d.fact 19 rfl) (c.t.d.def_ 31 (d := fd_fake_of) rfl) bn_fake_of rfl rfl rfl rfl) (AllI.cons (entE (K := K) (x := "_law_alike") (nm := "_law_alike") (st := s_l_alike) X N (c.t.d.fact 20 rfl) (c.t.d.def_ 32 (d := fd_l_alike) rfl) bn_l_alike rfl rfl rfl rfl) (AllI.cons (entE (K := K) (x := "twins") (nm := "twins") (st := s_twins) X N (c.t.d.fact 21 rfl) (c.t.d.def_ 33 (d := fd_twins) rfl) bn_twins rfl rfl rfl rfl) AllI.nil)))))))))))))))))))))))))))))))))) (AllG.cons (gloIE (c.t.d.fact 35 rfl)) (AllG.cons (gloTE (vs := [.str "number", .int 0]) rfl (c.t.d.fact 36 rfl) (exAt c.more 18 rfl) (fun _ _ => (.cons (.str _) (.cons (.int _) .nil)))) (AllG.cons (gloTE (vs := [.str "number", .int 1]) rfl (c.t.d.fact 37 rfl) (exAt c.more 19 rfl) (fun _ _ => (.cons (.str _) (.cons (.int _) .nil)))) (AllG.cons (gloTE' (vs := [.str "+", .str "-", .str "*", .str "/", .str "mod"]) rfl (c.t.d.fact 38 rfl) (exAt c.more 20 rfl) (exAt c.more 21 rfl) (fun _ _ => (.cons (.str _) (.cons (.str _) (.cons (.str _) (.cons (.str _) (.cons (.str _) .nil))))))) (AllG.cons (gloTE' (vs := [.str "<", .str "<=", .str "=", .str ">=", .str ">", .str "!="]) rfl (c.t.d.fact 39 rfl) (exAt c.more 22 rfl) (exAt c.more 23 rfl) (fun _ _ => (.cons (.str _) (.cons (.str _) (.cons (.str _) (.cons (.str _) (.cons (.str _) (.cons (.str _) .nil)))))))) (AllG.cons (gloDE (l := [("<", ">="), ("<=", ">"), ("=", "!="), (">=", "<"), (">", "<="), ("!=", "=")]) rfl (c.t.d.fact 40 rfl) (c.t.tab 0 (t := tb_0) rfl) (exAt c.more 24 rfl)) AllG.nil)))))) (AllB.cons (He.eqO_ok (c.t.d.fact 23 (f := .free "len") rfl)) (AllB.cons (He.eqO_ok (c.t.d.fact 24 (f := .free "sorted") rfl)) (AllB.cons (He.eqO_ok (c.t.d.fact 25 (f := .free "min") rfl)) (AllB.cons (He.eqO_ok (c.t.d.fact 26 (f := .free "int") rfl)) (AllB.cons (He.eqO_ok (c.t.d.fact 27 (f := .free "max") rfl)) (AllB.cons (He.eqO_ok (c.t.d.fact 28 (f := .free "range") rfl)) (AllB.cons (He.eqO_ok (c.t.d.fact 29 (f := .free "tuple") rfl)) (AllB.cons (He.eqO_ok (c.t.d.fact 30 (f := .free "enumerate") rfl)) (AllB.cons (He.eqO_ok (c.t.d.fact 31 (f := .free "divmod") rfl)) (AllB.cons (He.eqO_ok (c.t.d.fact 32 (f := .free "isinstance") rfl)) (AllB.cons (He.eqO_ok (c.t.d.fact 33 (f := .free "str") rfl)) (AllB.cons (He.eqO_ok (c.t.d.fact 34 (f := .free "bool") rfl)) AllB.nil)))))))))))) (AllC.cons (clsB_ok (exAt c.more 0 rfl)) (AllC.cons (clsB_ok (exAt c.more 1 rfl)) (AllC.cons (clsB_ok (exAt c.more 2 rfl)) (AllC.cons (clsB_ok (exAt c.more 3 rfl)) (AllC.cons (clsB_ok (exAt c.more 4 rfl)) (AllC.cons (clsB_ok (exAt c.more 5 rfl)) AllC.nil)))))) AllS.nil rfl rfl (xcA_of AllP.nil AllP.nil AllP.nil AllP.nil) ck_hot (c.t.d.fact 22 rfl) (c.t.d.def_ 34 (d := fd_law) rfl) ck_tab ck_law rfl rfl rfl bn_law wfn lev holds
end Lw
open PySem PySem.W PySem.Calls PyProof.Rows
set_option maxRecDepth 100000 in
set_option maxHeartbeats 0 in
theorem PySem.Challenge.cw_fakehunt_k29_twins_in_groups_holds : PySem.Challenge.rw_fakehunt_k29_twins_in_groups.Holds := by
  w_on; o_law
  refine HandSHeadRun.head_any (r := Lw.R) (q := Lw.qv) (H := Lw.hk) (ob := Lw.ob) (M := 30000) (loose := Lw.loL) (d := HandSHeadRun.topDef Lw.R.prog 41) (kwd := []) Lw.ob_eq (by kernel_rfl) (fun s => by kernel_rfl) Lw.run (by kernel_rfl) (by kernel_rfl) (by kernel_rfl) (by rfl) (by first | assumption | decide +kernel) (by decide +kernel) ⟨rfl, rfl, rfl, rfl, rfl, by decide +kernel⟩ ?hw ?hc
  case hw => w_witness2
  case hc =>
    refine PV.walk_lawE (l := PySem.Challenge.rw_fakehunt_k29_twins_in_groups) (x := "_law_script") Lw.lev ⟨rfl, by decide, by decide⟩ rfl (by kernel_rfl) ?F
    intro w mg fa h Y G hmg0
    obtain ⟨K, KX, c⟩ := Y
    have hmg : mg ("law" : PySem.Str) = some (.ref fa) := by
      have e : (HandSHeadRun.topDef Lw.R.prog 41).name = ("law" : PySem.Str) := by kernel_rfl
      rw [← e]
      exact hmg0
    exact ⟨K, KX, Lw.law_end KX G hmg c⟩
