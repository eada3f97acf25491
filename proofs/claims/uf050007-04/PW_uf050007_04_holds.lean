import PyProof.Rows.All
import Wide.All
import OpenK.AllK
import Wide.FinOn
import PyProof.Walks
import PyProof.WalksMore
import PyProof.Cells
import PyProof.DictWalks
import PyProof.StrBlock
import PyProof.CompFree
import PyProof.StrCalls2
import PyProof.DefCall
import PyProof.MakeMany
import PyProof.CallType
import PyProof.LetGo
import PyProof.PureInt
import PyProof.StrOps
import PyProof.Rows.RuleB_mod
import PyProof.Rows.RuleB_floordiv
import PyProof.Rows.RuleB_mul
import PyProof.Rows.RuleB_pow
import PyProof.Rows.RuleC_bool
import PyProof.Rows.EqNone
import PyProof.Rows.StrRules
import PyProof.Rows.IntBool
import PyProof.Raises
import PyProof.ForRange
import PyProof.RangeFor
import PyProof.StrWalks
import PyProof.IsiPairs
import PyProof.IsiHeapPairs
import PyProof.WalkInts
import PyProof.SliceMore
import PyProof.SliceStr2
import PyProof.EqAt
import PyProof.ListIndexNeg
import PyProof.StrCalls3
import PyProof.Rows.Tup
import PyProof.Rows.Lst
import PyProof.Rows.SeqMore
import PyProof.StrOps2
import PyProof.DictTruth
import PyProof.EqKinds
import PyProof.StrCalls
import PyProof.CallStr
import PyProof.Conv_int_bool
import PyProof.FactsAll.list
import PyProof.StrLawsOcc
import PyProof.FitsReplace
import PyProof.StrLawsTight
import PyProof.StrBlock2
import KE.KDictList
import KE.KItemsList
import KE.KDictOf
import PyProof.DictRoads
import KE.KEqDict
import PyProof.RaisesMany
import PyProof.StationsW
import PyProof.Rows.OwnQ
import PyProof.ExcBaseAll.ValueError
import PyProof.ExcAttrAll.ValueError
import PyProof.IsInstance
import PyProof.RulesAs
import PyProof.RulesDel
import PySem.Challenge.RW_uf050007_04
set_option Elab.async false
noncomputable section
set_option autoImplicit false
set_option maxRecDepth 100000
set_option maxHeartbeats 0
set_option Elab.async false
namespace Mine
namespace Hd
noncomputable section
set_option linter.unusedVariables false
open PySem PySem.W PyProof.Rows PySem.Calls
theorem topGo_q : topGo = PySem.W.Fast.tw15667345088766844465 := PySem.W.Fast.te15667345088766844465
theorem segRun_q : segRun = PySem.W.Fast.tw14374325043358763698 := PySem.W.Fast.te14374325043358763698
theorem segRunT_q : segRunT = PySem.W.Fast.tw10110043849684766642 := PySem.W.Fast.te10110043849684766642
theorem topRun_q : topRun = PySem.W.Fast.tw14082659384304107361 := PySem.W.Fast.te14082659384304107361
theorem table_q : treeTable = PySem.W.Fast.tw14364793385576792824 := PySem.W.Fast.te14364793385576792824
theorem denote_q : denote = PySem.W.Fast.tw11892475500146522536 := PySem.W.Fast.te11892475500146522536
def fA (l : List Stmt) (n : Nat) : Arguments := match l[n]? with | some (.FunctionDef _ a _ _ _ _ _ _ _ _) => a | _ => default
def fB (l : List Stmt) (n : Nat) : List Stmt := match l[n]? with | some (.FunctionDef _ _ b _ _ _ _ _ _ _) => b | _ => []
def fS (l : List Stmt) (n : Nat) : Scope := match l[n]? with | some (.FunctionDef _ _ _ _ _ _ s _ _ _) => s | _ => default
def cB (l : List Stmt) (n : Nat) : List Stmt := match l[n]? with | some (.ClassDef _ _ _ b ..) => b | _ => []
def cS (l : List Stmt) (n : Nat) : Scope := match l[n]? with | some (.ClassDef _ _ _ _ _ _ s ..) => s | _ => default
abbrev pw : Program := PySem.Challenge.pw_uf050007_04
abbrev TB : List Stmt := pw.main.body
def vw : Program := view pw [1, 2, 3, 4, 5, 6, 7, 8, 10, 11, 12, 13, 14, 15, 17, 19, 20, 21, 22, 23, 24, 25, 26, 27, 28]
def env : Env := { scope := pw.main.scope, locals := mainNs, globals := mainNs, cells := [], code := (.ref (nat_lit 13)), frame := some 14 }
def ann : Option Value := (@Option.some @PySem.Value (.ref (nat_lit 6)))
abbrev cE : Code := .body (behindTheImports pw) env
def qq : Pos := (@PySem.Pos.mk (nat_lit 0) (nat_lit 0) (nat_lit 0) (nat_lit 0))
abbrev BB : List Frame := [topFrame qq]
abbrev s0 (w : World) (os : OsState) : Shared := Shared.mk (boot_heap w.params) (@Array.mk GenState []) boot_drawn boot_toks os
def o11_0 (P : Params) : Obj := (@PySem.Obj.mk (@PySem.Value.type "tuple") (@Option.none @Nat) (@PySem.Data.seq (@List.toArray @PySem.Value []) (nat_lit 0)) (@List.toArray (@Option @PySem.Value) []))
def o12_0 (P : Params) : Obj := (@PySem.Obj.mk Value.none (@Option.none @Nat) (@PySem.Data.fields (@List.toArray @PySem.Value [])) (@List.toArray (@Option @PySem.Value) []))
def o13_0 (P : Params) : Obj := (@PySem.Obj.mk (@PySem.Value.type "code") (@Option.none @Nat) (@PySem.Data.fields (@List.toArray @PySem.Value [(@PySem.Value.str (Str.ofString "<module>") (nat_lit 182)), (@PySem.Value.str (Str.ofString "<module>") (nat_lit 183)), (@PySem.Value.str (Str.ofString "/claim/cut.py") (nat_lit 184)), (@PySem.Value.int ((nat_lit 1) : Int) (nat_lit 0)), (@PySem.Value.int ((nat_lit 0) : Int) (nat_lit 0)), (@PySem.Value.int ((nat_lit 0) : Int) (nat_lit 0)), (@PySem.Value.int ((nat_lit 0) : Int) (nat_lit 0)), (@PySem.Value.int ((nat_lit 0) : Int) (nat_lit 0)), (.ref (nat_lit 11)), (@PySem.Value.bool false), (@PySem.Value.int ((nat_lit 181) : Int) (nat_lit 0)), (.ref (nat_lit 12)), Value.none, Value.none, Value.none, Value.none, (@PySem.Value.int ((nat_lit 185) : Int) (nat_lit 0)), (@PySem.Value.int ((nat_lit 1) : Int) (nat_lit 0)), (@PySem.Value.str (Str.ofString "/claim/cut.py") (nat_lit 186))])) (@List.toArray (@Option @PySem.Value) []))
def o14_0 (P : Params) : Obj := (@PySem.Obj.mk (@PySem.Value.type "frame") (@Option.none @Nat) @PySem.Data.plain (@List.toArray (@Option @PySem.Value) [(@Option.some @PySem.Value (.ref (nat_lit 13))), (@Option.some @PySem.Value (.ref (nat_lit 3))), (@Option.some @PySem.Value (.ref (nat_lit 3))), (@Option.none @PySem.Value), (@Option.some @PySem.Value (@PySem.Value.str (Str.ofString "__main__") (nat_lit 164))), (@Option.none @PySem.Value), (@Option.some @PySem.Value (.ref (nat_lit 0)))]))
def hp_a (P : Params) : Heap := Heap.mk (@Array.mk Obj [boot_o_0 P, boot_o_1 P, boot_o_2 P, boot_o_3 P, boot_o_4 P, boot_o_5 P, boot_o_6 P, boot_o_7 P, boot_o_8 P, boot_o_9 P, boot_o_10 P, o11_0 P, o12_0 P, o13_0 P, o14_0 P]) (@PySem.Life.mk [] [] [] (nat_lit 0) [] [] false (@List.toArray @Nat []) [] (nat_lit 0) false false false ((nat_lit 0) : Int) [((nat_lit 2000) : Int), ((nat_lit 10) : Int), ((nat_lit 10) : Int)] false (nat_lit 0) true [] [] (nat_lit 0) false)
abbrev sl_a (w : World) (os : OsState) : Shared := Shared.mk (hp_a w.params) (@Array.mk GenState []) (@PySem.Drawn.mk (nat_lit 0) (nat_lit 0) (nat_lit 0) (nat_lit 0)) (nat_lit 187) os
def tr_b (P : Params) : PySem.W.BT := (.node (boot_o_0 P) (.node (boot_o_1 P) (.node (boot_o_3 P) (.node (boot_o_7 P) .nil .nil) (.node (o11_0 P) .nil .nil)) (.node (boot_o_5 P) (.node (boot_o_9 P) .nil .nil) (.node (o13_0 P) .nil .nil))) (.node (boot_o_2 P) (.node (boot_o_4 P) (.node (boot_o_8 P) .nil .nil) (.node (o12_0 P) .nil .nil)) (.node (boot_o_6 P) (.node (boot_o_10 P) .nil .nil) (.node (o14_0 P) .nil .nil))))
abbrev st_b (w : World) (os : OsState) : SharedT := SharedT.mk (tr_b w.params) (nat_lit 15) (@PySem.Life.mk [] [] [] (nat_lit 0) [] [] false (@List.toArray @Nat []) [] (nat_lit 0) false false false ((nat_lit 0) : Int) [((nat_lit 2000) : Int), ((nat_lit 10) : Int), ((nat_lit 10) : Int)] false (nat_lit 0) true [] [] (nat_lit 0) false) (@Array.mk GenState []) (@PySem.Drawn.mk (nat_lit 0) (nat_lit 0) (nat_lit 0) (nat_lit 0)) (nat_lit 187) os
theorem q_pre : ∀ w : World, (fun os => topGo treeTable pw w 11 ann (nat_lit 12) (s0 w os) (topStub pw)) = fun os => some (sl_a w os, Thread.mk (denote treeTable cE) cE (@PySem.Pos.mk (nat_lit 0) (nat_lit 0) (nat_lit 0) (nat_lit 0)) BB) := fun w => by rw [topGo_q, table_q, denote_q]; kernel_rfl
theorem q_block : ∀ w : World, (fun os => segRun treeTable pw w 11 ann 1 (nat_lit 1) (sl_a w os) (blockOf (behindTheImports pw) env cE (@PySem.Pos.mk (nat_lit 0) (nat_lit 0) (nat_lit 0) (nat_lit 0)) BB)) = fun os => some (Flow.next, (st_b w os).abs, cE, (@PySem.Pos.mk (nat_lit 0) (nat_lit 0) (nat_lit 0) (nat_lit 0))) := fun w => by rw [segRun_q, table_q]; kernel_rfl
def o3_0 (P : Params) : Obj := (@PySem.Obj.mk (@PySem.Value.type "dict") (@Option.none @Nat) (@PySem.Data.dict (@List.toArray @PySem.DictEntry [(@PySem.DictEntry.mk (@PySem.PyData.keyHash P (Str.ofString "__name__")) (@PySem.Value.str (Str.ofString "__name__") (nat_lit 165)) (@PySem.Value.str (Str.ofString "threeroad.errors") (nat_lit 187))), (@PySem.DictEntry.mk (@PySem.PyData.keyHash P (Str.ofString "__doc__")) (@PySem.Value.str (Str.ofString "__doc__") (nat_lit 166)) Value.none), (@PySem.DictEntry.mk (@PySem.PyData.keyHash P (Str.ofString "__package__")) (@PySem.Value.str (Str.ofString "__package__") (nat_lit 167)) Value.none), (@PySem.DictEntry.mk (@PySem.PyData.keyHash P (Str.ofString "__loader__")) (@PySem.Value.str (Str.ofString "__loader__") (nat_lit 168)) (@PySem.Value.builtin "__main__.__loader__#opaque")), (@PySem.DictEntry.mk (@PySem.PyData.keyHash P (Str.ofString "__spec__")) (@PySem.Value.str (Str.ofString "__spec__") (nat_lit 169)) Value.none), (@PySem.DictEntry.mk (@PySem.PyData.keyHash P (Str.ofString "__annotations__")) (@PySem.Value.str (Str.ofString "__annotations__") (nat_lit 170)) (.ref (nat_lit 6))), (@PySem.DictEntry.mk (@PySem.PyData.keyHash P (Str.ofString "__builtins__")) (@PySem.Value.str (Str.ofString "__builtins__") (nat_lit 171)) (.ref (nat_lit 4))), (@PySem.DictEntry.mk (@PySem.PyData.keyHash P (Str.ofString "__file__")) (@PySem.Value.str (Str.ofString "__file__") (nat_lit 173)) (@PySem.Value.str (Str.ofString "/claim/cut.py") (nat_lit 172))), (@PySem.DictEntry.mk (@PySem.PyData.keyHash P (Str.ofString "__cached__")) (@PySem.Value.str (Str.ofString "__cached__") (nat_lit 174)) Value.none), (@PySem.DictEntry.mk (@PySem.PyData.keyHash P (Str.ofString "RoadError")) (@PySem.Value.str (Str.ofString "RoadError") (nat_lit 206)) (.ref (nat_lit 24))), (@PySem.DictEntry.mk (@PySem.PyData.keyHash P (Str.ofString "NoPath")) (@PySem.Value.str (Str.ofString "NoPath") (nat_lit 222)) (.ref (nat_lit 37)))]) (nat_lit 11)) (@List.toArray (@Option @PySem.Value) []))
def o12_1 (P : Params) : Obj := (@PySem.Obj.mk Value.none (@Option.none @Nat) (@PySem.Data.fields (@List.toArray @PySem.Value [(@PySem.Value.int ((nat_lit 2) : Int) (nat_lit 0)), (@PySem.Value.int ((nat_lit 0) : Int) (nat_lit 0)), (.ref (nat_lit 20)), (@PySem.Value.int ((nat_lit 4) : Int) (nat_lit 0)), (@PySem.Value.int ((nat_lit 0) : Int) (nat_lit 0)), (.ref (nat_lit 33))])) (@List.toArray (@Option @PySem.Value) []))
def o15_0 (P : Params) : Obj := (@PySem.Obj.mk (@PySem.Value.type "tuple") (@Option.none @Nat) (@PySem.Data.seq (@List.toArray @PySem.Value [(@PySem.Value.type "ValueError")]) (nat_lit 0)) (@List.toArray (@Option @PySem.Value) []))
def o16_0 (P : Params) : Obj := (@PySem.Obj.mk (@PySem.Value.type "builtin_function_or_method") (@Option.none @Nat) (@PySem.Data.fields (@List.toArray @PySem.Value [(@PySem.Value.builtin "type.__prepare__"), (@PySem.Value.type "type")])) (@List.toArray (@Option @PySem.Value) []))
def o17_0 (P : Params) : Obj := (@PySem.Obj.mk (@PySem.Value.type "dict") (@Option.none @Nat) (@PySem.Data.dict (@List.toArray @PySem.DictEntry [(@PySem.DictEntry.mk (@PySem.PyData.keyHash P (Str.ofString "__module__")) (@PySem.Value.str (Str.ofString "__module__") (nat_lit 196)) (@PySem.Value.str (Str.ofString "threeroad.errors") (nat_lit 187))), (@PySem.DictEntry.mk (@PySem.PyData.keyHash P (Str.ofString "__qualname__")) (@PySem.Value.str (Str.ofString "__qualname__") (nat_lit 198)) (@PySem.Value.str (Str.ofString "RoadError") (nat_lit 197))), (@PySem.DictEntry.mk (@PySem.PyData.keyHash P (Str.ofString "__firstlineno__")) (@PySem.Value.str (Str.ofString "__firstlineno__") (nat_lit 200)) (@PySem.Value.int ((nat_lit 2) : Int) (nat_lit 199))), (@PySem.DictEntry.mk (@PySem.PyData.keyHash P (Str.ofString "__static_attributes__")) (@PySem.Value.str (Str.ofString "__static_attributes__") (nat_lit 201)) (.ref (nat_lit 22)))]) (nat_lit 4)) (@List.toArray (@Option @PySem.Value) []))
def o18_0 (P : Params) : Obj := (@PySem.Obj.mk (@PySem.Value.type "tuple") (@Option.none @Nat) (@PySem.Data.seq (@List.toArray @PySem.Value []) (nat_lit 0)) (@List.toArray (@Option @PySem.Value) []))
def o19_0 (P : Params) : Obj := (@PySem.Obj.mk Value.none (@Option.none @Nat) (@PySem.Data.fields (@List.toArray @PySem.Value [])) (@List.toArray (@Option @PySem.Value) []))
def o20_0 (P : Params) : Obj := (@PySem.Obj.mk (@PySem.Value.type "code") (@Option.none @Nat) (@PySem.Data.fields (@List.toArray @PySem.Value [(@PySem.Value.str (Str.ofString "RoadError") (nat_lit 191)), (@PySem.Value.str (Str.ofString "RoadError") (nat_lit 192)), (@PySem.Value.str (Str.ofString "/claim/cut.py") (nat_lit 193)), (@PySem.Value.int ((nat_lit 2) : Int) (nat_lit 0)), (@PySem.Value.int ((nat_lit 0) : Int) (nat_lit 0)), (@PySem.Value.int ((nat_lit 0) : Int) (nat_lit 0)), (@PySem.Value.int ((nat_lit 0) : Int) (nat_lit 0)), (@PySem.Value.int ((nat_lit 0) : Int) (nat_lit 0)), (.ref (nat_lit 18)), (@PySem.Value.bool false), (@PySem.Value.int ((nat_lit 181) : Int) (nat_lit 0)), (.ref (nat_lit 19)), Value.none, Value.none, Value.none, Value.none, (@PySem.Value.int ((nat_lit 194) : Int) (nat_lit 0)), (@PySem.Value.int ((nat_lit 2) : Int) (nat_lit 0)), (@PySem.Value.str (Str.ofString "/claim/cut.py") (nat_lit 195))])) (@List.toArray (@Option @PySem.Value) []))
def o21_0 (P : Params) : Obj := (@PySem.Obj.mk (@PySem.Value.type "frame") (@Option.none @Nat) @PySem.Data.plain (@List.toArray (@Option @PySem.Value) [(@Option.some @PySem.Value (.ref (nat_lit 20))), (@Option.some @PySem.Value (.ref (nat_lit 3))), (@Option.some @PySem.Value (.ref (nat_lit 17))), (@Option.none @PySem.Value), (@Option.some @PySem.Value (@PySem.Value.str (Str.ofString "threeroad.errors") (nat_lit 187))), (@Option.none @PySem.Value), (@Option.some @PySem.Value (.ref (nat_lit 0)))]))
def o22_0 (P : Params) : Obj := (@PySem.Obj.mk (@PySem.Value.type "tuple") (@Option.none @Nat) (@PySem.Data.seq (@List.toArray @PySem.Value []) (nat_lit 0)) (@List.toArray (@Option @PySem.Value) []))
def o23_0 (P : Params) : Obj := (@PySem.Obj.mk (@PySem.Value.type "dict") (@Option.none @Nat) (@PySem.Data.dict (@List.toArray @PySem.DictEntry [(@PySem.DictEntry.mk (@PySem.PyData.keyHash P (Str.ofString "__module__")) (@PySem.Value.str (Str.ofString "__module__") (nat_lit 196)) (@PySem.Value.str (Str.ofString "threeroad.errors") (nat_lit 187))), (@PySem.DictEntry.mk (@PySem.PyData.keyHash P (Str.ofString "__firstlineno__")) (@PySem.Value.str (Str.ofString "__firstlineno__") (nat_lit 200)) (@PySem.Value.int ((nat_lit 2) : Int) (nat_lit 199))), (@PySem.DictEntry.mk (@PySem.PyData.keyHash P (Str.ofString "__static_attributes__")) (@PySem.Value.str (Str.ofString "__static_attributes__") (nat_lit 201)) (.ref (nat_lit 22))), (@PySem.DictEntry.mk (@PySem.PyData.keyHash P (Str.ofString "__weakref__")) (@PySem.Value.str (Str.ofString "__weakref__") (nat_lit 203)) (.ref (nat_lit 25))), (@PySem.DictEntry.mk (@PySem.PyData.keyHash P (Str.ofString "__doc__")) (@PySem.Value.str (Str.ofString "__doc__") (nat_lit 204)) Value.none)]) (nat_lit 3)) (@List.toArray (@Option @PySem.Value) []))
def o24_0 (P : Params) : Obj := (@PySem.Obj.mk (@PySem.Value.type "type") (@Option.none @Nat) (@PySem.Data.cls (@PySem.ClassData.mk (Str.ofString "RoadError") [(@PySem.Value.type "ValueError")] [(.ref (nat_lit 24)), (@PySem.Value.type "ValueError"), (@PySem.Value.type "Exception"), (@PySem.Value.type "BaseException"), (@PySem.Value.type "object")] (nat_lit 23) (Str.ofString "RoadError") true [] [(.ref (nat_lit 37))] false (@Option.none @Bool) false)) (@List.toArray (@Option @PySem.Value) [(@Option.some @PySem.Value (.ref (nat_lit 15))), (@Option.none @PySem.Value), (@Option.some @PySem.Value (@PySem.Value.str (Str.ofString "RoadError") (nat_lit 189))), (@Option.some @PySem.Value (@PySem.Value.str (Str.ofString "RoadError") (nat_lit 197))), (@Option.some @PySem.Value (@PySem.Value.builtin "ValueError.__new__")), (@Option.some @PySem.Value (@PySem.Value.bool true))]))
def o25_0 (P : Params) : Obj := (@PySem.Obj.mk (@PySem.Value.type "getset_descriptor") (@Option.none @Nat) (@PySem.Data.fields (@List.toArray @PySem.Value [(@PySem.Value.str (Str.ofString "__weakref__") (nat_lit 202)), (.ref (nat_lit 24)), (@PySem.Value.builtin "ExceptionGroup.__weakref__"), Value.none])) (@List.toArray (@Option @PySem.Value) []))
def o26_0 (P : Params) : Obj := (@PySem.Obj.mk (@PySem.Value.type "super") (@Option.none @Nat) (@PySem.Data.fields (@List.toArray @PySem.Value [(.ref (nat_lit 24)), (.ref (nat_lit 24)), (.ref (nat_lit 24))])) (@List.toArray (@Option @PySem.Value) []))
def o27_0 (P : Params) : Obj := (@PySem.Obj.mk (@PySem.Value.type "builtin_function_or_method") (@Option.none @Nat) (@PySem.Data.fields (@List.toArray @PySem.Value [(@PySem.Value.builtin "object.__init_subclass__"), (.ref (nat_lit 24))])) (@List.toArray (@Option @PySem.Value) []))
def o28_0 (P : Params) : Obj := (@PySem.Obj.mk (@PySem.Value.type "tuple") (@Option.none @Nat) (@PySem.Data.seq (@List.toArray @PySem.Value [(.ref (nat_lit 24))]) (nat_lit 0)) (@List.toArray (@Option @PySem.Value) []))
def o29_0 (P : Params) : Obj := (@PySem.Obj.mk (@PySem.Value.type "builtin_function_or_method") (@Option.none @Nat) (@PySem.Data.fields (@List.toArray @PySem.Value [(@PySem.Value.builtin "type.__prepare__"), (@PySem.Value.type "type")])) (@List.toArray (@Option @PySem.Value) []))
def o30_0 (P : Params) : Obj := (@PySem.Obj.mk (@PySem.Value.type "dict") (@Option.none @Nat) (@PySem.Data.dict (@List.toArray @PySem.DictEntry [(@PySem.DictEntry.mk (@PySem.PyData.keyHash P (Str.ofString "__module__")) (@PySem.Value.str (Str.ofString "__module__") (nat_lit 214)) (@PySem.Value.str (Str.ofString "threeroad.errors") (nat_lit 187))), (@PySem.DictEntry.mk (@PySem.PyData.keyHash P (Str.ofString "__qualname__")) (@PySem.Value.str (Str.ofString "__qualname__") (nat_lit 216)) (@PySem.Value.str (Str.ofString "NoPath") (nat_lit 215))), (@PySem.DictEntry.mk (@PySem.PyData.keyHash P (Str.ofString "__firstlineno__")) (@PySem.Value.str (Str.ofString "__firstlineno__") (nat_lit 218)) (@PySem.Value.int ((nat_lit 4) : Int) (nat_lit 217))), (@PySem.DictEntry.mk (@PySem.PyData.keyHash P (Str.ofString "__static_attributes__")) (@PySem.Value.str (Str.ofString "__static_attributes__") (nat_lit 219)) (.ref (nat_lit 35)))]) (nat_lit 4)) (@List.toArray (@Option @PySem.Value) []))
def o31_0 (P : Params) : Obj := (@PySem.Obj.mk (@PySem.Value.type "tuple") (@Option.none @Nat) (@PySem.Data.seq (@List.toArray @PySem.Value []) (nat_lit 0)) (@List.toArray (@Option @PySem.Value) []))
def o32_0 (P : Params) : Obj := (@PySem.Obj.mk Value.none (@Option.none @Nat) (@PySem.Data.fields (@List.toArray @PySem.Value [])) (@List.toArray (@Option @PySem.Value) []))
def o33_0 (P : Params) : Obj := (@PySem.Obj.mk (@PySem.Value.type "code") (@Option.none @Nat) (@PySem.Data.fields (@List.toArray @PySem.Value [(@PySem.Value.str (Str.ofString "NoPath") (nat_lit 209)), (@PySem.Value.str (Str.ofString "NoPath") (nat_lit 210)), (@PySem.Value.str (Str.ofString "/claim/cut.py") (nat_lit 211)), (@PySem.Value.int ((nat_lit 4) : Int) (nat_lit 0)), (@PySem.Value.int ((nat_lit 0) : Int) (nat_lit 0)), (@PySem.Value.int ((nat_lit 0) : Int) (nat_lit 0)), (@PySem.Value.int ((nat_lit 0) : Int) (nat_lit 0)), (@PySem.Value.int ((nat_lit 0) : Int) (nat_lit 0)), (.ref (nat_lit 31)), (@PySem.Value.bool false), (@PySem.Value.int ((nat_lit 181) : Int) (nat_lit 0)), (.ref (nat_lit 32)), Value.none, Value.none, Value.none, Value.none, (@PySem.Value.int ((nat_lit 212) : Int) (nat_lit 0)), (@PySem.Value.int ((nat_lit 4) : Int) (nat_lit 0)), (@PySem.Value.str (Str.ofString "/claim/cut.py") (nat_lit 213))])) (@List.toArray (@Option @PySem.Value) []))
def o34_0 (P : Params) : Obj := (@PySem.Obj.mk (@PySem.Value.type "frame") (@Option.none @Nat) @PySem.Data.plain (@List.toArray (@Option @PySem.Value) [(@Option.some @PySem.Value (.ref (nat_lit 33))), (@Option.some @PySem.Value (.ref (nat_lit 3))), (@Option.some @PySem.Value (.ref (nat_lit 30))), (@Option.none @PySem.Value), (@Option.some @PySem.Value (@PySem.Value.str (Str.ofString "threeroad.errors") (nat_lit 187))), (@Option.none @PySem.Value), (@Option.some @PySem.Value (.ref (nat_lit 0)))]))
def o35_0 (P : Params) : Obj := (@PySem.Obj.mk (@PySem.Value.type "tuple") (@Option.none @Nat) (@PySem.Data.seq (@List.toArray @PySem.Value []) (nat_lit 0)) (@List.toArray (@Option @PySem.Value) []))
def o36_0 (P : Params) : Obj := (@PySem.Obj.mk (@PySem.Value.type "dict") (@Option.none @Nat) (@PySem.Data.dict (@List.toArray @PySem.DictEntry [(@PySem.DictEntry.mk (@PySem.PyData.keyHash P (Str.ofString "__module__")) (@PySem.Value.str (Str.ofString "__module__") (nat_lit 214)) (@PySem.Value.str (Str.ofString "threeroad.errors") (nat_lit 187))), (@PySem.DictEntry.mk (@PySem.PyData.keyHash P (Str.ofString "__firstlineno__")) (@PySem.Value.str (Str.ofString "__firstlineno__") (nat_lit 218)) (@PySem.Value.int ((nat_lit 4) : Int) (nat_lit 217))), (@PySem.DictEntry.mk (@PySem.PyData.keyHash P (Str.ofString "__static_attributes__")) (@PySem.Value.str (Str.ofString "__static_attributes__") (nat_lit 219)) (.ref (nat_lit 35))), (@PySem.DictEntry.mk (@PySem.PyData.keyHash P (Str.ofString "__doc__")) (@PySem.Value.str (Str.ofString "__doc__") (nat_lit 220)) Value.none)]) (nat_lit 2)) (@List.toArray (@Option @PySem.Value) []))
def o37_0 (P : Params) : Obj := (@PySem.Obj.mk (@PySem.Value.type "type") (@Option.none @Nat) (@PySem.Data.cls (@PySem.ClassData.mk (Str.ofString "NoPath") [(.ref (nat_lit 24))] [(.ref (nat_lit 37)), (.ref (nat_lit 24)), (@PySem.Value.type "ValueError"), (@PySem.Value.type "Exception"), (@PySem.Value.type "BaseException"), (@PySem.Value.type "object")] (nat_lit 36) (Str.ofString "NoPath") true [] [] false (@Option.none @Bool) false)) (@List.toArray (@Option @PySem.Value) [(@Option.some @PySem.Value (.ref (nat_lit 28))), (@Option.none @PySem.Value), (@Option.some @PySem.Value (@PySem.Value.str (Str.ofString "NoPath") (nat_lit 207))), (@Option.some @PySem.Value (@PySem.Value.str (Str.ofString "NoPath") (nat_lit 215))), (@Option.some @PySem.Value (@PySem.Value.builtin "ValueError.__new__")), (@Option.some @PySem.Value (@PySem.Value.bool true))]))
def o38_0 (P : Params) : Obj := (@PySem.Obj.mk (@PySem.Value.type "super") (@Option.none @Nat) (@PySem.Data.fields (@List.toArray @PySem.Value [(.ref (nat_lit 37)), (.ref (nat_lit 37)), (.ref (nat_lit 37))])) (@List.toArray (@Option @PySem.Value) []))
def o39_0 (P : Params) : Obj := (@PySem.Obj.mk (@PySem.Value.type "builtin_function_or_method") (@Option.none @Nat) (@PySem.Data.fields (@List.toArray @PySem.Value [(@PySem.Value.builtin "object.__init_subclass__"), (.ref (nat_lit 37))])) (@List.toArray (@Option @PySem.Value) []))
def tr_3 (P : Params) : PySem.W.BT := (.node (boot_o_0 P) (.node (boot_o_1 P) (.node (o3_0 P) (.node (boot_o_7 P) (.node (o15_0 P) (.node (o31_0 P) .nil .nil) .nil) (.node (o23_0 P) (.node (o39_0 P) .nil .nil) .nil)) (.node (o11_0 P) (.node (o19_0 P) (.node (o35_0 P) .nil .nil) .nil) (.node (o27_0 P) .nil .nil))) (.node (boot_o_5 P) (.node (boot_o_9 P) (.node (o17_0 P) (.node (o33_0 P) .nil .nil) .nil) (.node (o25_0 P) .nil .nil)) (.node (o13_0 P) (.node (o21_0 P) (.node (o37_0 P) .nil .nil) .nil) (.node (o29_0 P) .nil .nil)))) (.node (boot_o_2 P) (.node (boot_o_4 P) (.node (boot_o_8 P) (.node (o16_0 P) (.node (o32_0 P) .nil .nil) .nil) (.node (o24_0 P) .nil .nil)) (.node (o12_1 P) (.node (o20_0 P) (.node (o36_0 P) .nil .nil) .nil) (.node (o28_0 P) .nil .nil))) (.node (boot_o_6 P) (.node (boot_o_10 P) (.node (o18_0 P) (.node (o34_0 P) .nil .nil) .nil) (.node (o26_0 P) .nil .nil)) (.node (o14_0 P) (.node (o22_0 P) (.node (o38_0 P) .nil .nil) .nil) (.node (o30_0 P) .nil .nil)))))
abbrev st_3 (w : World) (os : OsState) : SharedT := SharedT.mk (tr_3 w.params) (nat_lit 40) (@PySem.Life.mk [] [] [] (nat_lit 0) [] [] false (@List.toArray @Nat []) [] (nat_lit 0) false false false ((nat_lit 0) : Int) [((nat_lit 2000) : Int), ((nat_lit 10) : Int), ((nat_lit 10) : Int)] false (nat_lit 0) true [] [] (nat_lit 0) false) (@Array.mk GenState []) (@PySem.Drawn.mk (nat_lit 0) (nat_lit 0) (nat_lit 0) (nat_lit 0)) (nat_lit 223) os
def ss_3 : List Stmt := ((behindTheImports pw).drop 0).take 3
theorem q_3 : ∀ w : World, (fun os => segRunT treeTable pw w 11 ann 1 (nat_lit 409) (st_b w os) (piecesOf ss_3 env cE (@PySem.Pos.mk (nat_lit 0) (nat_lit 0) (nat_lit 0) (nat_lit 0)) BB)) = fun os => some (Flow.next, st_3 w os, cE, (@PySem.Pos.mk (nat_lit 4) (nat_lit 0) (nat_lit 5) (nat_lit 8))) := fun w => by rw [segRunT_q, table_q]; kernel_rfl
def o3_1 (P : Params) : Obj := (@PySem.Obj.mk (@PySem.Value.type "dict") (@Option.none @Nat) (@PySem.Data.dict (@List.toArray @PySem.DictEntry [(@PySem.DictEntry.mk (@PySem.PyData.keyHash P (Str.ofString "__name__")) (@PySem.Value.str (Str.ofString "__name__") (nat_lit 165)) (@PySem.Value.str (Str.ofString "threeroad.errors") (nat_lit 187))), (@PySem.DictEntry.mk (@PySem.PyData.keyHash P (Str.ofString "__doc__")) (@PySem.Value.str (Str.ofString "__doc__") (nat_lit 166)) Value.none), (@PySem.DictEntry.mk (@PySem.PyData.keyHash P (Str.ofString "__package__")) (@PySem.Value.str (Str.ofString "__package__") (nat_lit 167)) Value.none), (@PySem.DictEntry.mk (@PySem.PyData.keyHash P (Str.ofString "__loader__")) (@PySem.Value.str (Str.ofString "__loader__") (nat_lit 168)) (@PySem.Value.builtin "__main__.__loader__#opaque")), (@PySem.DictEntry.mk (@PySem.PyData.keyHash P (Str.ofString "__spec__")) (@PySem.Value.str (Str.ofString "__spec__") (nat_lit 169)) Value.none), (@PySem.DictEntry.mk (@PySem.PyData.keyHash P (Str.ofString "__annotations__")) (@PySem.Value.str (Str.ofString "__annotations__") (nat_lit 170)) (.ref (nat_lit 6))), (@PySem.DictEntry.mk (@PySem.PyData.keyHash P (Str.ofString "__builtins__")) (@PySem.Value.str (Str.ofString "__builtins__") (nat_lit 171)) (.ref (nat_lit 4))), (@PySem.DictEntry.mk (@PySem.PyData.keyHash P (Str.ofString "__file__")) (@PySem.Value.str (Str.ofString "__file__") (nat_lit 173)) (@PySem.Value.str (Str.ofString "/claim/cut.py") (nat_lit 172))), (@PySem.DictEntry.mk (@PySem.PyData.keyHash P (Str.ofString "__cached__")) (@PySem.Value.str (Str.ofString "__cached__") (nat_lit 174)) Value.none), (@PySem.DictEntry.mk (@PySem.PyData.keyHash P (Str.ofString "RoadError")) (@PySem.Value.str (Str.ofString "RoadError") (nat_lit 206)) (.ref (nat_lit 24))), (@PySem.DictEntry.mk (@PySem.PyData.keyHash P (Str.ofString "NoPath")) (@PySem.Value.str (Str.ofString "NoPath") (nat_lit 222)) (.ref (nat_lit 37))), (@PySem.DictEntry.mk (@PySem.PyData.keyHash P (Str.ofString "NoFile")) (@PySem.Value.str (Str.ofString "NoFile") (nat_lit 238)) (.ref (nat_lit 49))), (@PySem.DictEntry.mk (@PySem.PyData.keyHash P (Str.ofString "InTheWay")) (@PySem.Value.str (Str.ofString "InTheWay") (nat_lit 254)) (.ref (nat_lit 61)))]) (nat_lit 13)) (@List.toArray (@Option @PySem.Value) []))
def o12_2 (P : Params) : Obj := (@PySem.Obj.mk Value.none (@Option.none @Nat) (@PySem.Data.fields (@List.toArray @PySem.Value [(@PySem.Value.int ((nat_lit 2) : Int) (nat_lit 0)), (@PySem.Value.int ((nat_lit 0) : Int) (nat_lit 0)), (.ref (nat_lit 20)), (@PySem.Value.int ((nat_lit 4) : Int) (nat_lit 0)), (@PySem.Value.int ((nat_lit 0) : Int) (nat_lit 0)), (.ref (nat_lit 33)), (@PySem.Value.int ((nat_lit 6) : Int) (nat_lit 0)), (@PySem.Value.int ((nat_lit 0) : Int) (nat_lit 0)), (.ref (nat_lit 45)), (@PySem.Value.int ((nat_lit 8) : Int) (nat_lit 0)), (@PySem.Value.int ((nat_lit 0) : Int) (nat_lit 0)), (.ref (nat_lit 57))])) (@List.toArray (@Option @PySem.Value) []))
def o24_1 (P : Params) : Obj := (@PySem.Obj.mk (@PySem.Value.type "type") (@Option.none @Nat) (@PySem.Data.cls (@PySem.ClassData.mk (Str.ofString "RoadError") [(@PySem.Value.type "ValueError")] [(.ref (nat_lit 24)), (@PySem.Value.type "ValueError"), (@PySem.Value.type "Exception"), (@PySem.Value.type "BaseException"), (@PySem.Value.type "object")] (nat_lit 23) (Str.ofString "RoadError") true [] [(.ref (nat_lit 37)), (.ref (nat_lit 49)), (.ref (nat_lit 61))] false (@Option.none @Bool) false)) (@List.toArray (@Option @PySem.Value) [(@Option.some @PySem.Value (.ref (nat_lit 15))), (@Option.none @PySem.Value), (@Option.some @PySem.Value (@PySem.Value.str (Str.ofString "RoadError") (nat_lit 189))), (@Option.some @PySem.Value (@PySem.Value.str (Str.ofString "RoadError") (nat_lit 197))), (@Option.some @PySem.Value (@PySem.Value.builtin "ValueError.__new__")), (@Option.some @PySem.Value (@PySem.Value.bool true))]))
def o40_0 (P : Params) : Obj := (@PySem.Obj.mk (@PySem.Value.type "tuple") (@Option.none @Nat) (@PySem.Data.seq (@List.toArray @PySem.Value [(.ref (nat_lit 24))]) (nat_lit 0)) (@List.toArray (@Option @PySem.Value) []))
def o41_0 (P : Params) : Obj := (@PySem.Obj.mk (@PySem.Value.type "builtin_function_or_method") (@Option.none @Nat) (@PySem.Data.fields (@List.toArray @PySem.Value [(@PySem.Value.builtin "type.__prepare__"), (@PySem.Value.type "type")])) (@List.toArray (@Option @PySem.Value) []))
def o42_0 (P : Params) : Obj := (@PySem.Obj.mk (@PySem.Value.type "dict") (@Option.none @Nat) (@PySem.Data.dict (@List.toArray @PySem.DictEntry [(@PySem.DictEntry.mk (@PySem.PyData.keyHash P (Str.ofString "__module__")) (@PySem.Value.str (Str.ofString "__module__") (nat_lit 230)) (@PySem.Value.str (Str.ofString "threeroad.errors") (nat_lit 187))), (@PySem.DictEntry.mk (@PySem.PyData.keyHash P (Str.ofString "__qualname__")) (@PySem.Value.str (Str.ofString "__qualname__") (nat_lit 232)) (@PySem.Value.str (Str.ofString "NoFile") (nat_lit 231))), (@PySem.DictEntry.mk (@PySem.PyData.keyHash P (Str.ofString "__firstlineno__")) (@PySem.Value.str (Str.ofString "__firstlineno__") (nat_lit 234)) (@PySem.Value.int ((nat_lit 6) : Int) (nat_lit 233))), (@PySem.DictEntry.mk (@PySem.PyData.keyHash P (Str.ofString "__static_attributes__")) (@PySem.Value.str (Str.ofString "__static_attributes__") (nat_lit 235)) (.ref (nat_lit 47)))]) (nat_lit 4)) (@List.toArray (@Option @PySem.Value) []))
def o43_0 (P : Params) : Obj := (@PySem.Obj.mk (@PySem.Value.type "tuple") (@Option.none @Nat) (@PySem.Data.seq (@List.toArray @PySem.Value []) (nat_lit 0)) (@List.toArray (@Option @PySem.Value) []))
def o44_0 (P : Params) : Obj := (@PySem.Obj.mk Value.none (@Option.none @Nat) (@PySem.Data.fields (@List.toArray @PySem.Value [])) (@List.toArray (@Option @PySem.Value) []))
def o45_0 (P : Params) : Obj := (@PySem.Obj.mk (@PySem.Value.type "code") (@Option.none @Nat) (@PySem.Data.fields (@List.toArray @PySem.Value [(@PySem.Value.str (Str.ofString "NoFile") (nat_lit 225)), (@PySem.Value.str (Str.ofString "NoFile") (nat_lit 226)), (@PySem.Value.str (Str.ofString "/claim/cut.py") (nat_lit 227)), (@PySem.Value.int ((nat_lit 6) : Int) (nat_lit 0)), (@PySem.Value.int ((nat_lit 0) : Int) (nat_lit 0)), (@PySem.Value.int ((nat_lit 0) : Int) (nat_lit 0)), (@PySem.Value.int ((nat_lit 0) : Int) (nat_lit 0)), (@PySem.Value.int ((nat_lit 0) : Int) (nat_lit 0)), (.ref (nat_lit 43)), (@PySem.Value.bool false), (@PySem.Value.int ((nat_lit 181) : Int) (nat_lit 0)), (.ref (nat_lit 44)), Value.none, Value.none, Value.none, Value.none, (@PySem.Value.int ((nat_lit 228) : Int) (nat_lit 0)), (@PySem.Value.int ((nat_lit 6) : Int) (nat_lit 0)), (@PySem.Value.str (Str.ofString "/claim/cut.py") (nat_lit 229))])) (@List.toArray (@Option @PySem.Value) []))
def o46_0 (P : Params) : Obj := (@PySem.Obj.mk (@PySem.Value.type "frame") (@Option.none @Nat) @PySem.Data.plain (@List.toArray (@Option @PySem.Value) [(@Option.some @PySem.Value (.ref (nat_lit 45))), (@Option.some @PySem.Value (.ref (nat_lit 3))), (@Option.some @PySem.Value (.ref (nat_lit 42))), (@Option.none @PySem.Value), (@Option.some @PySem.Value (@PySem.Value.str (Str.ofString "threeroad.errors") (nat_lit 187))), (@Option.none @PySem.Value), (@Option.some @PySem.Value (.ref (nat_lit 0)))]))
def o47_0 (P : Params) : Obj := (@PySem.Obj.mk (@PySem.Value.type "tuple") (@Option.none @Nat) (@PySem.Data.seq (@List.toArray @PySem.Value []) (nat_lit 0)) (@List.toArray (@Option @PySem.Value) []))
def o48_0 (P : Params) : Obj := (@PySem.Obj.mk (@PySem.Value.type "dict") (@Option.none @Nat) (@PySem.Data.dict (@List.toArray @PySem.DictEntry [(@PySem.DictEntry.mk (@PySem.PyData.keyHash P (Str.ofString "__module__")) (@PySem.Value.str (Str.ofString "__module__") (nat_lit 230)) (@PySem.Value.str (Str.ofString "threeroad.errors") (nat_lit 187))), (@PySem.DictEntry.mk (@PySem.PyData.keyHash P (Str.ofString "__firstlineno__")) (@PySem.Value.str (Str.ofString "__firstlineno__") (nat_lit 234)) (@PySem.Value.int ((nat_lit 6) : Int) (nat_lit 233))), (@PySem.DictEntry.mk (@PySem.PyData.keyHash P (Str.ofString "__static_attributes__")) (@PySem.Value.str (Str.ofString "__static_attributes__") (nat_lit 235)) (.ref (nat_lit 47))), (@PySem.DictEntry.mk (@PySem.PyData.keyHash P (Str.ofString "__doc__")) (@PySem.Value.str (Str.ofString "__doc__") (nat_lit 236)) Value.none)]) (nat_lit 2)) (@List.toArray (@Option @PySem.Value) []))
def o49_0 (P : Params) : Obj := (@PySem.Obj.mk (@PySem.Value.type "type") (@Option.none @Nat) (@PySem.Data.cls (@PySem.ClassData.mk (Str.ofString "NoFile") [(.ref (nat_lit 24))] [(.ref (nat_lit 49)), (.ref (nat_lit 24)), (@PySem.Value.type "ValueError"), (@PySem.Value.type "Exception"), (@PySem.Value.type "BaseException"), (@PySem.Value.type "object")] (nat_lit 48) (Str.ofString "NoFile") true [] [] false (@Option.none @Bool) false)) (@List.toArray (@Option @PySem.Value) [(@Option.some @PySem.Value (.ref (nat_lit 40))), (@Option.none @PySem.Value), (@Option.some @PySem.Value (@PySem.Value.str (Str.ofString "NoFile") (nat_lit 223))), (@Option.some @PySem.Value (@PySem.Value.str (Str.ofString "NoFile") (nat_lit 231))), (@Option.some @PySem.Value (@PySem.Value.builtin "ValueError.__new__")), (@Option.some @PySem.Value (@PySem.Value.bool true))]))
def o50_0 (P : Params) : Obj := (@PySem.Obj.mk (@PySem.Value.type "super") (@Option.none @Nat) (@PySem.Data.fields (@List.toArray @PySem.Value [(.ref (nat_lit 49)), (.ref (nat_lit 49)), (.ref (nat_lit 49))])) (@List.toArray (@Option @PySem.Value) []))
def o51_0 (P : Params) : Obj := (@PySem.Obj.mk (@PySem.Value.type "builtin_function_or_method") (@Option.none @Nat) (@PySem.Data.fields (@List.toArray @PySem.Value [(@PySem.Value.builtin "object.__init_subclass__"), (.ref (nat_lit 49))])) (@List.toArray (@Option @PySem.Value) []))
def o52_0 (P : Params) : Obj := (@PySem.Obj.mk (@PySem.Value.type "tuple") (@Option.none @Nat) (@PySem.Data.seq (@List.toArray @PySem.Value [(.ref (nat_lit 24))]) (nat_lit 0)) (@List.toArray (@Option @PySem.Value) []))
def o53_0 (P : Params) : Obj := (@PySem.Obj.mk (@PySem.Value.type "builtin_function_or_method") (@Option.none @Nat) (@PySem.Data.fields (@List.toArray @PySem.Value [(@PySem.Value.builtin "type.__prepare__"), (@PySem.Value.type "type")])) (@List.toArray (@Option @PySem.Value) []))
def o54_0 (P : Params) : Obj := (@PySem.Obj.mk (@PySem.Value.type "dict") (@Option.none @Nat) (@PySem.Data.dict (@List.toArray @PySem.DictEntry [(@PySem.DictEntry.mk (@PySem.PyData.keyHash P (Str.ofString "__module__")) (@PySem.Value.str (Str.ofString "__module__") (nat_lit 246)) (@PySem.Value.str (Str.ofString "threeroad.errors") (nat_lit 187))), (@PySem.DictEntry.mk (@PySem.PyData.keyHash P (Str.ofString "__qualname__")) (@PySem.Value.str (Str.ofString "__qualname__") (nat_lit 248)) (@PySem.Value.str (Str.ofString "InTheWay") (nat_lit 247))), (@PySem.DictEntry.mk (@PySem.PyData.keyHash P (Str.ofString "__firstlineno__")) (@PySem.Value.str (Str.ofString "__firstlineno__") (nat_lit 250)) (@PySem.Value.int ((nat_lit 8) : Int) (nat_lit 249))), (@PySem.DictEntry.mk (@PySem.PyData.keyHash P (Str.ofString "__static_attributes__")) (@PySem.Value.str (Str.ofString "__static_attributes__") (nat_lit 251)) (.ref (nat_lit 59)))]) (nat_lit 4)) (@List.toArray (@Option @PySem.Value) []))
def o55_0 (P : Params) : Obj := (@PySem.Obj.mk (@PySem.Value.type "tuple") (@Option.none @Nat) (@PySem.Data.seq (@List.toArray @PySem.Value []) (nat_lit 0)) (@List.toArray (@Option @PySem.Value) []))
def o56_0 (P : Params) : Obj := (@PySem.Obj.mk Value.none (@Option.none @Nat) (@PySem.Data.fields (@List.toArray @PySem.Value [])) (@List.toArray (@Option @PySem.Value) []))
def o57_0 (P : Params) : Obj := (@PySem.Obj.mk (@PySem.Value.type "code") (@Option.none @Nat) (@PySem.Data.fields (@List.toArray @PySem.Value [(@PySem.Value.str (Str.ofString "InTheWay") (nat_lit 241)), (@PySem.Value.str (Str.ofString "InTheWay") (nat_lit 242)), (@PySem.Value.str (Str.ofString "/claim/cut.py") (nat_lit 243)), (@PySem.Value.int ((nat_lit 8) : Int) (nat_lit 0)), (@PySem.Value.int ((nat_lit 0) : Int) (nat_lit 0)), (@PySem.Value.int ((nat_lit 0) : Int) (nat_lit 0)), (@PySem.Value.int ((nat_lit 0) : Int) (nat_lit 0)), (@PySem.Value.int ((nat_lit 0) : Int) (nat_lit 0)), (.ref (nat_lit 55)), (@PySem.Value.bool false), (@PySem.Value.int ((nat_lit 181) : Int) (nat_lit 0)), (.ref (nat_lit 56)), Value.none, Value.none, Value.none, Value.none, (@PySem.Value.int ((nat_lit 244) : Int) (nat_lit 0)), (@PySem.Value.int ((nat_lit 8) : Int) (nat_lit 0)), (@PySem.Value.str (Str.ofString "/claim/cut.py") (nat_lit 245))])) (@List.toArray (@Option @PySem.Value) []))
def o58_0 (P : Params) : Obj := (@PySem.Obj.mk (@PySem.Value.type "frame") (@Option.none @Nat) @PySem.Data.plain (@List.toArray (@Option @PySem.Value) [(@Option.some @PySem.Value (.ref (nat_lit 57))), (@Option.some @PySem.Value (.ref (nat_lit 3))), (@Option.some @PySem.Value (.ref (nat_lit 54))), (@Option.none @PySem.Value), (@Option.some @PySem.Value (@PySem.Value.str (Str.ofString "threeroad.errors") (nat_lit 187))), (@Option.none @PySem.Value), (@Option.some @PySem.Value (.ref (nat_lit 0)))]))
def o59_0 (P : Params) : Obj := (@PySem.Obj.mk (@PySem.Value.type "tuple") (@Option.none @Nat) (@PySem.Data.seq (@List.toArray @PySem.Value []) (nat_lit 0)) (@List.toArray (@Option @PySem.Value) []))
def o60_0 (P : Params) : Obj := (@PySem.Obj.mk (@PySem.Value.type "dict") (@Option.none @Nat) (@PySem.Data.dict (@List.toArray @PySem.DictEntry [(@PySem.DictEntry.mk (@PySem.PyData.keyHash P (Str.ofString "__module__")) (@PySem.Value.str (Str.ofString "__module__") (nat_lit 246)) (@PySem.Value.str (Str.ofString "threeroad.errors") (nat_lit 187))), (@PySem.DictEntry.mk (@PySem.PyData.keyHash P (Str.ofString "__firstlineno__")) (@PySem.Value.str (Str.ofString "__firstlineno__") (nat_lit 250)) (@PySem.Value.int ((nat_lit 8) : Int) (nat_lit 249))), (@PySem.DictEntry.mk (@PySem.PyData.keyHash P (Str.ofString "__static_attributes__")) (@PySem.Value.str (Str.ofString "__static_attributes__") (nat_lit 251)) (.ref (nat_lit 59))), (@PySem.DictEntry.mk (@PySem.PyData.keyHash P (Str.ofString "__doc__")) (@PySem.Value.str (Str.ofString "__doc__") (nat_lit 252)) Value.none)]) (nat_lit 2)) (@List.toArray (@Option @PySem.Value) []))
def o61_0 (P : Params) : Obj := (@PySem.Obj.mk (@PySem.Value.type "type") (@Option.none @Nat) (@PySem.Data.cls (@PySem.ClassData.mk (Str.ofString "InTheWay") [(.ref (nat_lit 24))] [(.ref (nat_lit 61)), (.ref (nat_lit 24)), (@PySem.Value.type "ValueError"), (@PySem.Value.type "Exception"), (@PySem.Value.type "BaseException"), (@PySem.Value.type "object")] (nat_lit 60) (Str.ofString "InTheWay") true [] [] false (@Option.none @Bool) false)) (@List.toArray (@Option @PySem.Value) [(@Option.some @PySem.Value (.ref (nat_lit 52))), (@Option.none @PySem.Value), (@Option.some @PySem.Value (@PySem.Value.str (Str.ofString "InTheWay") (nat_lit 239))), (@Option.some @PySem.Value (@PySem.Value.str (Str.ofString "InTheWay") (nat_lit 247))), (@Option.some @PySem.Value (@PySem.Value.builtin "ValueError.__new__")), (@Option.some @PySem.Value (@PySem.Value.bool true))]))
def o62_0 (P : Params) : Obj := (@PySem.Obj.mk (@PySem.Value.type "super") (@Option.none @Nat) (@PySem.Data.fields (@List.toArray @PySem.Value [(.ref (nat_lit 61)), (.ref (nat_lit 61)), (.ref (nat_lit 61))])) (@List.toArray (@Option @PySem.Value) []))
def o63_0 (P : Params) : Obj := (@PySem.Obj.mk (@PySem.Value.type "builtin_function_or_method") (@Option.none @Nat) (@PySem.Data.fields (@List.toArray @PySem.Value [(@PySem.Value.builtin "object.__init_subclass__"), (.ref (nat_lit 61))])) (@List.toArray (@Option @PySem.Value) []))
def tr_5 (P : Params) : PySem.W.BT := (.node (boot_o_0 P) (.node (boot_o_1 P) (.node (o3_1 P) (.node (boot_o_7 P) (.node (o15_0 P) (.node (o31_0 P) (.node (o63_0 P) .nil .nil) .nil) (.node (o47_0 P) .nil .nil)) (.node (o23_0 P) (.node (o39_0 P) .nil .nil) (.node (o55_0 P) .nil .nil))) (.node (o11_0 P) (.node (o19_0 P) (.node (o35_0 P) .nil .nil) (.node (o51_0 P) .nil .nil)) (.node (o27_0 P) (.node (o43_0 P) .nil .nil) (.node (o59_0 P) .nil .nil)))) (.node (boot_o_5 P) (.node (boot_o_9 P) (.node (o17_0 P) (.node (o33_0 P) .nil .nil) (.node (o49_0 P) .nil .nil)) (.node (o25_0 P) (.node (o41_0 P) .nil .nil) (.node (o57_0 P) .nil .nil))) (.node (o13_0 P) (.node (o21_0 P) (.node (o37_0 P) .nil .nil) (.node (o53_0 P) .nil .nil)) (.node (o29_0 P) (.node (o45_0 P) .nil .nil) (.node (o61_0 P) .nil .nil))))) (.node (boot_o_2 P) (.node (boot_o_4 P) (.node (boot_o_8 P) (.node (o16_0 P) (.node (o32_0 P) .nil .nil) (.node (o48_0 P) .nil .nil)) (.node (o24_1 P) (.node (o40_0 P) .nil .nil) (.node (o56_0 P) .nil .nil))) (.node (o12_2 P) (.node (o20_0 P) (.node (o36_0 P) .nil .nil) (.node (o52_0 P) .nil .nil)) (.node (o28_0 P) (.node (o44_0 P) .nil .nil) (.node (o60_0 P) .nil .nil)))) (.node (boot_o_6 P) (.node (boot_o_10 P) (.node (o18_0 P) (.node (o34_0 P) .nil .nil) (.node (o50_0 P) .nil .nil)) (.node (o26_0 P) (.node (o42_0 P) .nil .nil) (.node (o58_0 P) .nil .nil))) (.node (o14_0 P) (.node (o22_0 P) (.node (o38_0 P) .nil .nil) (.node (o54_0 P) .nil .nil)) (.node (o30_0 P) (.node (o46_0 P) .nil .nil) (.node (o62_0 P) .nil .nil))))))
abbrev st_5 (w : World) (os : OsState) : SharedT := SharedT.mk (tr_5 w.params) (nat_lit 64) (@PySem.Life.mk [] [] [] (nat_lit 0) [] [] false (@List.toArray @Nat []) [] (nat_lit 0) false false false ((nat_lit 0) : Int) [((nat_lit 2000) : Int), ((nat_lit 10) : Int), ((nat_lit 10) : Int)] false (nat_lit 0) true [] [] (nat_lit 0) false) (@Array.mk GenState []) (@PySem.Drawn.mk (nat_lit 0) (nat_lit 0) (nat_lit 0) (nat_lit 0)) (nat_lit 255) os
def ss_5 : List Stmt := ((behindTheImports pw).drop 3).take 2
theorem q_5 : ∀ w : World, (fun os => segRunT treeTable pw w 11 ann 1 (nat_lit 427) (st_3 w os) (piecesOf ss_5 env cE (@PySem.Pos.mk (nat_lit 4) (nat_lit 0) (nat_lit 5) (nat_lit 8)) BB)) = fun os => some (Flow.next, st_5 w os, cE, (@PySem.Pos.mk (nat_lit 8) (nat_lit 0) (nat_lit 9) (nat_lit 8))) := fun w => by rw [segRunT_q, table_q]; kernel_rfl
def o3_2 (P : Params) : Obj := (@PySem.Obj.mk (@PySem.Value.type "dict") (@Option.none @Nat) (@PySem.Data.dict (@List.toArray @PySem.DictEntry [(@PySem.DictEntry.mk (@PySem.PyData.keyHash P (Str.ofString "__name__")) (@PySem.Value.str (Str.ofString "__name__") (nat_lit 165)) (@PySem.Value.str (Str.ofString "threeroad.errors") (nat_lit 187))), (@PySem.DictEntry.mk (@PySem.PyData.keyHash P (Str.ofString "__doc__")) (@PySem.Value.str (Str.ofString "__doc__") (nat_lit 166)) Value.none), (@PySem.DictEntry.mk (@PySem.PyData.keyHash P (Str.ofString "__package__")) (@PySem.Value.str (Str.ofString "__package__") (nat_lit 167)) Value.none), (@PySem.DictEntry.mk (@PySem.PyData.keyHash P (Str.ofString "__loader__")) (@PySem.Value.str (Str.ofString "__loader__") (nat_lit 168)) (@PySem.Value.builtin "__main__.__loader__#opaque")), (@PySem.DictEntry.mk (@PySem.PyData.keyHash P (Str.ofString "__spec__")) (@PySem.Value.str (Str.ofString "__spec__") (nat_lit 169)) Value.none), (@PySem.DictEntry.mk (@PySem.PyData.keyHash P (Str.ofString "__annotations__")) (@PySem.Value.str (Str.ofString "__annotations__") (nat_lit 170)) (.ref (nat_lit 6))), (@PySem.DictEntry.mk (@PySem.PyData.keyHash P (Str.ofString "__builtins__")) (@PySem.Value.str (Str.ofString "__builtins__") (nat_lit 171)) (.ref (nat_lit 4))), (@PySem.DictEntry.mk (@PySem.PyData.keyHash P (Str.ofString "__file__")) (@PySem.Value.str (Str.ofString "__file__") (nat_lit 173)) (@PySem.Value.str (Str.ofString "/claim/cut.py") (nat_lit 172))), (@PySem.DictEntry.mk (@PySem.PyData.keyHash P (Str.ofString "__cached__")) (@PySem.Value.str (Str.ofString "__cached__") (nat_lit 174)) Value.none), (@PySem.DictEntry.mk (@PySem.PyData.keyHash P (Str.ofString "RoadError")) (@PySem.Value.str (Str.ofString "RoadError") (nat_lit 206)) (.ref (nat_lit 24))), (@PySem.DictEntry.mk (@PySem.PyData.keyHash P (Str.ofString "NoPath")) (@PySem.Value.str (Str.ofString "NoPath") (nat_lit 222)) (.ref (nat_lit 37))), (@PySem.DictEntry.mk (@PySem.PyData.keyHash P (Str.ofString "NoFile")) (@PySem.Value.str (Str.ofString "NoFile") (nat_lit 238)) (.ref (nat_lit 49))), (@PySem.DictEntry.mk (@PySem.PyData.keyHash P (Str.ofString "InTheWay")) (@PySem.Value.str (Str.ofString "InTheWay") (nat_lit 254)) (.ref (nat_lit 61))), (@PySem.DictEntry.mk (@PySem.PyData.keyHash P (Str.ofString "NoClash")) (@PySem.Value.str (Str.ofString "NoClash") (nat_lit 270)) (.ref (nat_lit 73))), (@PySem.DictEntry.mk (@PySem.PyData.keyHash P (Str.ofString "Clashed")) (@PySem.Value.str (Str.ofString "Clashed") (nat_lit 286)) (.ref (nat_lit 85)))]) (nat_lit 15)) (@List.toArray (@Option @PySem.Value) []))
def o12_3 (P : Params) : Obj := (@PySem.Obj.mk Value.none (@Option.none @Nat) (@PySem.Data.fields (@List.toArray @PySem.Value [(@PySem.Value.int ((nat_lit 2) : Int) (nat_lit 0)), (@PySem.Value.int ((nat_lit 0) : Int) (nat_lit 0)), (.ref (nat_lit 20)), (@PySem.Value.int ((nat_lit 4) : Int) (nat_lit 0)), (@PySem.Value.int ((nat_lit 0) : Int) (nat_lit 0)), (.ref (nat_lit 33)), (@PySem.Value.int ((nat_lit 6) : Int) (nat_lit 0)), (@PySem.Value.int ((nat_lit 0) : Int) (nat_lit 0)), (.ref (nat_lit 45)), (@PySem.Value.int ((nat_lit 8) : Int) (nat_lit 0)), (@PySem.Value.int ((nat_lit 0) : Int) (nat_lit 0)), (.ref (nat_lit 57)), (@PySem.Value.int ((nat_lit 10) : Int) (nat_lit 0)), (@PySem.Value.int ((nat_lit 0) : Int) (nat_lit 0)), (.ref (nat_lit 69)), (@PySem.Value.int ((nat_lit 12) : Int) (nat_lit 0)), (@PySem.Value.int ((nat_lit 0) : Int) (nat_lit 0)), (.ref (nat_lit 81))])) (@List.toArray (@Option @PySem.Value) []))
def o24_2 (P : Params) : Obj := (@PySem.Obj.mk (@PySem.Value.type "type") (@Option.none @Nat) (@PySem.Data.cls (@PySem.ClassData.mk (Str.ofString "RoadError") [(@PySem.Value.type "ValueError")] [(.ref (nat_lit 24)), (@PySem.Value.type "ValueError"), (@PySem.Value.type "Exception"), (@PySem.Value.type "BaseException"), (@PySem.Value.type "object")] (nat_lit 23) (Str.ofString "RoadError") true [] [(.ref (nat_lit 37)), (.ref (nat_lit 49)), (.ref (nat_lit 61)), (.ref (nat_lit 73)), (.ref (nat_lit 85))] false (@Option.none @Bool) false)) (@List.toArray (@Option @PySem.Value) [(@Option.some @PySem.Value (.ref (nat_lit 15))), (@Option.none @PySem.Value), (@Option.some @PySem.Value (@PySem.Value.str (Str.ofString "RoadError") (nat_lit 189))), (@Option.some @PySem.Value (@PySem.Value.str (Str.ofString "RoadError") (nat_lit 197))), (@Option.some @PySem.Value (@PySem.Value.builtin "ValueError.__new__")), (@Option.some @PySem.Value (@PySem.Value.bool true))]))
def o64_0 (P : Params) : Obj := (@PySem.Obj.mk (@PySem.Value.type "tuple") (@Option.none @Nat) (@PySem.Data.seq (@List.toArray @PySem.Value [(.ref (nat_lit 24))]) (nat_lit 0)) (@List.toArray (@Option @PySem.Value) []))
def o65_0 (P : Params) : Obj := (@PySem.Obj.mk (@PySem.Value.type "builtin_function_or_method") (@Option.none @Nat) (@PySem.Data.fields (@List.toArray @PySem.Value [(@PySem.Value.builtin "type.__prepare__"), (@PySem.Value.type "type")])) (@List.toArray (@Option @PySem.Value) []))
def o66_0 (P : Params) : Obj := (@PySem.Obj.mk (@PySem.Value.type "dict") (@Option.none @Nat) (@PySem.Data.dict (@List.toArray @PySem.DictEntry [(@PySem.DictEntry.mk (@PySem.PyData.keyHash P (Str.ofString "__module__")) (@PySem.Value.str (Str.ofString "__module__") (nat_lit 262)) (@PySem.Value.str (Str.ofString "threeroad.errors") (nat_lit 187))), (@PySem.DictEntry.mk (@PySem.PyData.keyHash P (Str.ofString "__qualname__")) (@PySem.Value.str (Str.ofString "__qualname__") (nat_lit 264)) (@PySem.Value.str (Str.ofString "NoClash") (nat_lit 263))), (@PySem.DictEntry.mk (@PySem.PyData.keyHash P (Str.ofString "__firstlineno__")) (@PySem.Value.str (Str.ofString "__firstlineno__") (nat_lit 266)) (@PySem.Value.int ((nat_lit 10) : Int) (nat_lit 265))), (@PySem.DictEntry.mk (@PySem.PyData.keyHash P (Str.ofString "__static_attributes__")) (@PySem.Value.str (Str.ofString "__static_attributes__") (nat_lit 267)) (.ref (nat_lit 71)))]) (nat_lit 4)) (@List.toArray (@Option @PySem.Value) []))
def o67_0 (P : Params) : Obj := (@PySem.Obj.mk (@PySem.Value.type "tuple") (@Option.none @Nat) (@PySem.Data.seq (@List.toArray @PySem.Value []) (nat_lit 0)) (@List.toArray (@Option @PySem.Value) []))
def o68_0 (P : Params) : Obj := (@PySem.Obj.mk Value.none (@Option.none @Nat) (@PySem.Data.fields (@List.toArray @PySem.Value [])) (@List.toArray (@Option @PySem.Value) []))
def o69_0 (P : Params) : Obj := (@PySem.Obj.mk (@PySem.Value.type "code") (@Option.none @Nat) (@PySem.Data.fields (@List.toArray @PySem.Value [(@PySem.Value.str (Str.ofString "NoClash") (nat_lit 257)), (@PySem.Value.str (Str.ofString "NoClash") (nat_lit 258)), (@PySem.Value.str (Str.ofString "/claim/cut.py") (nat_lit 259)), (@PySem.Value.int ((nat_lit 10) : Int) (nat_lit 0)), (@PySem.Value.int ((nat_lit 0) : Int) (nat_lit 0)), (@PySem.Value.int ((nat_lit 0) : Int) (nat_lit 0)), (@PySem.Value.int ((nat_lit 0) : Int) (nat_lit 0)), (@PySem.Value.int ((nat_lit 0) : Int) (nat_lit 0)), (.ref (nat_lit 67)), (@PySem.Value.bool false), (@PySem.Value.int ((nat_lit 181) : Int) (nat_lit 0)), (.ref (nat_lit 68)), Value.none, Value.none, Value.none, Value.none, (@PySem.Value.int ((nat_lit 260) : Int) (nat_lit 0)), (@PySem.Value.int ((nat_lit 10) : Int) (nat_lit 0)), (@PySem.Value.str (Str.ofString "/claim/cut.py") (nat_lit 261))])) (@List.toArray (@Option @PySem.Value) []))
def o70_0 (P : Params) : Obj := (@PySem.Obj.mk (@PySem.Value.type "frame") (@Option.none @Nat) @PySem.Data.plain (@List.toArray (@Option @PySem.Value) [(@Option.some @PySem.Value (.ref (nat_lit 69))), (@Option.some @PySem.Value (.ref (nat_lit 3))), (@Option.some @PySem.Value (.ref (nat_lit 66))), (@Option.none @PySem.Value), (@Option.some @PySem.Value (@PySem.Value.str (Str.ofString "threeroad.errors") (nat_lit 187))), (@Option.none @PySem.Value), (@Option.some @PySem.Value (.ref (nat_lit 0)))]))
def o71_0 (P : Params) : Obj := (@PySem.Obj.mk (@PySem.Value.type "tuple") (@Option.none @Nat) (@PySem.Data.seq (@List.toArray @PySem.Value []) (nat_lit 0)) (@List.toArray (@Option @PySem.Value) []))
def o72_0 (P : Params) : Obj := (@PySem.Obj.mk (@PySem.Value.type "dict") (@Option.none @Nat) (@PySem.Data.dict (@List.toArray @PySem.DictEntry [(@PySem.DictEntry.mk (@PySem.PyData.keyHash P (Str.ofString "__module__")) (@PySem.Value.str (Str.ofString "__module__") (nat_lit 262)) (@PySem.Value.str (Str.ofString "threeroad.errors") (nat_lit 187))), (@PySem.DictEntry.mk (@PySem.PyData.keyHash P (Str.ofString "__firstlineno__")) (@PySem.Value.str (Str.ofString "__firstlineno__") (nat_lit 266)) (@PySem.Value.int ((nat_lit 10) : Int) (nat_lit 265))), (@PySem.DictEntry.mk (@PySem.PyData.keyHash P (Str.ofString "__static_attributes__")) (@PySem.Value.str (Str.ofString "__static_attributes__") (nat_lit 267)) (.ref (nat_lit 71))), (@PySem.DictEntry.mk (@PySem.PyData.keyHash P (Str.ofString "__doc__")) (@PySem.Value.str (Str.ofString "__doc__") (nat_lit 268)) Value.none)]) (nat_lit 2)) (@List.toArray (@Option @PySem.Value) []))
def o73_0 (P : Params) : Obj := (@PySem.Obj.mk (@PySem.Value.type "type") (@Option.none @Nat) (@PySem.Data.cls (@PySem.ClassData.mk (Str.ofString "NoClash") [(.ref (nat_lit 24))] [(.ref (nat_lit 73)), (.ref (nat_lit 24)), (@PySem.Value.type "ValueError"), (@PySem.Value.type "Exception"), (@PySem.Value.type "BaseException"), (@PySem.Value.type "object")] (nat_lit 72) (Str.ofString "NoClash") true [] [] false (@Option.none @Bool) false)) (@List.toArray (@Option @PySem.Value) [(@Option.some @PySem.Value (.ref (nat_lit 64))), (@Option.none @PySem.Value), (@Option.some @PySem.Value (@PySem.Value.str (Str.ofString "NoClash") (nat_lit 255))), (@Option.some @PySem.Value (@PySem.Value.str (Str.ofString "NoClash") (nat_lit 263))), (@Option.some @PySem.Value (@PySem.Value.builtin "ValueError.__new__")), (@Option.some @PySem.Value (@PySem.Value.bool true))]))
def o74_0 (P : Params) : Obj := (@PySem.Obj.mk (@PySem.Value.type "super") (@Option.none @Nat) (@PySem.Data.fields (@List.toArray @PySem.Value [(.ref (nat_lit 73)), (.ref (nat_lit 73)), (.ref (nat_lit 73))])) (@List.toArray (@Option @PySem.Value) []))
def o75_0 (P : Params) : Obj := (@PySem.Obj.mk (@PySem.Value.type "builtin_function_or_method") (@Option.none @Nat) (@PySem.Data.fields (@List.toArray @PySem.Value [(@PySem.Value.builtin "object.__init_subclass__"), (.ref (nat_lit 73))])) (@List.toArray (@Option @PySem.Value) []))
def o76_0 (P : Params) : Obj := (@PySem.Obj.mk (@PySem.Value.type "tuple") (@Option.none @Nat) (@PySem.Data.seq (@List.toArray @PySem.Value [(.ref (nat_lit 24))]) (nat_lit 0)) (@List.toArray (@Option @PySem.Value) []))
def o77_0 (P : Params) : Obj := (@PySem.Obj.mk (@PySem.Value.type "builtin_function_or_method") (@Option.none @Nat) (@PySem.Data.fields (@List.toArray @PySem.Value [(@PySem.Value.builtin "type.__prepare__"), (@PySem.Value.type "type")])) (@List.toArray (@Option @PySem.Value) []))
def o78_0 (P : Params) : Obj := (@PySem.Obj.mk (@PySem.Value.type "dict") (@Option.none @Nat) (@PySem.Data.dict (@List.toArray @PySem.DictEntry [(@PySem.DictEntry.mk (@PySem.PyData.keyHash P (Str.ofString "__module__")) (@PySem.Value.str (Str.ofString "__module__") (nat_lit 278)) (@PySem.Value.str (Str.ofString "threeroad.errors") (nat_lit 187))), (@PySem.DictEntry.mk (@PySem.PyData.keyHash P (Str.ofString "__qualname__")) (@PySem.Value.str (Str.ofString "__qualname__") (nat_lit 280)) (@PySem.Value.str (Str.ofString "Clashed") (nat_lit 279))), (@PySem.DictEntry.mk (@PySem.PyData.keyHash P (Str.ofString "__firstlineno__")) (@PySem.Value.str (Str.ofString "__firstlineno__") (nat_lit 282)) (@PySem.Value.int ((nat_lit 12) : Int) (nat_lit 281))), (@PySem.DictEntry.mk (@PySem.PyData.keyHash P (Str.ofString "__static_attributes__")) (@PySem.Value.str (Str.ofString "__static_attributes__") (nat_lit 283)) (.ref (nat_lit 83)))]) (nat_lit 4)) (@List.toArray (@Option @PySem.Value) []))
def o79_0 (P : Params) : Obj := (@PySem.Obj.mk (@PySem.Value.type "tuple") (@Option.none @Nat) (@PySem.Data.seq (@List.toArray @PySem.Value []) (nat_lit 0)) (@List.toArray (@Option @PySem.Value) []))
def o80_0 (P : Params) : Obj := (@PySem.Obj.mk Value.none (@Option.none @Nat) (@PySem.Data.fields (@List.toArray @PySem.Value [])) (@List.toArray (@Option @PySem.Value) []))
def o81_0 (P : Params) : Obj := (@PySem.Obj.mk (@PySem.Value.type "code") (@Option.none @Nat) (@PySem.Data.fields (@List.toArray @PySem.Value [(@PySem.Value.str (Str.ofString "Clashed") (nat_lit 273)), (@PySem.Value.str (Str.ofString "Clashed") (nat_lit 274)), (@PySem.Value.str (Str.ofString "/claim/cut.py") (nat_lit 275)), (@PySem.Value.int ((nat_lit 12) : Int) (nat_lit 0)), (@PySem.Value.int ((nat_lit 0) : Int) (nat_lit 0)), (@PySem.Value.int ((nat_lit 0) : Int) (nat_lit 0)), (@PySem.Value.int ((nat_lit 0) : Int) (nat_lit 0)), (@PySem.Value.int ((nat_lit 0) : Int) (nat_lit 0)), (.ref (nat_lit 79)), (@PySem.Value.bool false), (@PySem.Value.int ((nat_lit 181) : Int) (nat_lit 0)), (.ref (nat_lit 80)), Value.none, Value.none, Value.none, Value.none, (@PySem.Value.int ((nat_lit 276) : Int) (nat_lit 0)), (@PySem.Value.int ((nat_lit 12) : Int) (nat_lit 0)), (@PySem.Value.str (Str.ofString "/claim/cut.py") (nat_lit 277))])) (@List.toArray (@Option @PySem.Value) []))
def o82_0 (P : Params) : Obj := (@PySem.Obj.mk (@PySem.Value.type "frame") (@Option.none @Nat) @PySem.Data.plain (@List.toArray (@Option @PySem.Value) [(@Option.some @PySem.Value (.ref (nat_lit 81))), (@Option.some @PySem.Value (.ref (nat_lit 3))), (@Option.some @PySem.Value (.ref (nat_lit 78))), (@Option.none @PySem.Value), (@Option.some @PySem.Value (@PySem.Value.str (Str.ofString "threeroad.errors") (nat_lit 187))), (@Option.none @PySem.Value), (@Option.some @PySem.Value (.ref (nat_lit 0)))]))
def o83_0 (P : Params) : Obj := (@PySem.Obj.mk (@PySem.Value.type "tuple") (@Option.none @Nat) (@PySem.Data.seq (@List.toArray @PySem.Value []) (nat_lit 0)) (@List.toArray (@Option @PySem.Value) []))
def o84_0 (P : Params) : Obj := (@PySem.Obj.mk (@PySem.Value.type "dict") (@Option.none @Nat) (@PySem.Data.dict (@List.toArray @PySem.DictEntry [(@PySem.DictEntry.mk (@PySem.PyData.keyHash P (Str.ofString "__module__")) (@PySem.Value.str (Str.ofString "__module__") (nat_lit 278)) (@PySem.Value.str (Str.ofString "threeroad.errors") (nat_lit 187))), (@PySem.DictEntry.mk (@PySem.PyData.keyHash P (Str.ofString "__firstlineno__")) (@PySem.Value.str (Str.ofString "__firstlineno__") (nat_lit 282)) (@PySem.Value.int ((nat_lit 12) : Int) (nat_lit 281))), (@PySem.DictEntry.mk (@PySem.PyData.keyHash P (Str.ofString "__static_attributes__")) (@PySem.Value.str (Str.ofString "__static_attributes__") (nat_lit 283)) (.ref (nat_lit 83))), (@PySem.DictEntry.mk (@PySem.PyData.keyHash P (Str.ofString "__doc__")) (@PySem.Value.str (Str.ofString "__doc__") (nat_lit 284)) Value.none)]) (nat_lit 2)) (@List.toArray (@Option @PySem.Value) []))
def o85_0 (P : Params) : Obj := (@PySem.Obj.mk (@PySem.Value.type "type") (@Option.none @Nat) (@PySem.Data.cls (@PySem.ClassData.mk (Str.ofString "Clashed") [(.ref (nat_lit 24))] [(.ref (nat_lit 85)), (.ref (nat_lit 24)), (@PySem.Value.type "ValueError"), (@PySem.Value.type "Exception"), (@PySem.Value.type "BaseException"), (@PySem.Value.type "object")] (nat_lit 84) (Str.ofString "Clashed") true [] [] false (@Option.none @Bool) false)) (@List.toArray (@Option @PySem.Value) [(@Option.some @PySem.Value (.ref (nat_lit 76))), (@Option.none @PySem.Value), (@Option.some @PySem.Value (@PySem.Value.str (Str.ofString "Clashed") (nat_lit 271))), (@Option.some @PySem.Value (@PySem.Value.str (Str.ofString "Clashed") (nat_lit 279))), (@Option.some @PySem.Value (@PySem.Value.builtin "ValueError.__new__")), (@Option.some @PySem.Value (@PySem.Value.bool true))]))
def o86_0 (P : Params) : Obj := (@PySem.Obj.mk (@PySem.Value.type "super") (@Option.none @Nat) (@PySem.Data.fields (@List.toArray @PySem.Value [(.ref (nat_lit 85)), (.ref (nat_lit 85)), (.ref (nat_lit 85))])) (@List.toArray (@Option @PySem.Value) []))
def o87_0 (P : Params) : Obj := (@PySem.Obj.mk (@PySem.Value.type "builtin_function_or_method") (@Option.none @Nat) (@PySem.Data.fields (@List.toArray @PySem.Value [(@PySem.Value.builtin "object.__init_subclass__"), (.ref (nat_lit 85))])) (@List.toArray (@Option @PySem.Value) []))
def tr_7 (P : Params) : PySem.W.BT := (.node (boot_o_0 P) (.node (boot_o_1 P) (.node (o3_2 P) (.node (boot_o_7 P) (.node (o15_0 P) (.node (o31_0 P) (.node (o63_0 P) .nil .nil) .nil) (.node (o47_0 P) (.node (o79_0 P) .nil .nil) .nil)) (.node (o23_0 P) (.node (o39_0 P) (.node (o71_0 P) .nil .nil) .nil) (.node (o55_0 P) (.node (o87_0 P) .nil .nil) .nil))) (.node (o11_0 P) (.node (o19_0 P) (.node (o35_0 P) (.node (o67_0 P) .nil .nil) .nil) (.node (o51_0 P) (.node (o83_0 P) .nil .nil) .nil)) (.node (o27_0 P) (.node (o43_0 P) (.node (o75_0 P) .nil .nil) .nil) (.node (o59_0 P) .nil .nil)))) (.node (boot_o_5 P) (.node (boot_o_9 P) (.node (o17_0 P) (.node (o33_0 P) (.node (o65_0 P) .nil .nil) .nil) (.node (o49_0 P) (.node (o81_0 P) .nil .nil) .nil)) (.node (o25_0 P) (.node (o41_0 P) (.node (o73_0 P) .nil .nil) .nil) (.node (o57_0 P) .nil .nil))) (.node (o13_0 P) (.node (o21_0 P) (.node (o37_0 P) (.node (o69_0 P) .nil .nil) .nil) (.node (o53_0 P) (.node (o85_0 P) .nil .nil) .nil)) (.node (o29_0 P) (.node (o45_0 P) (.node (o77_0 P) .nil .nil) .nil) (.node (o61_0 P) .nil .nil))))) (.node (boot_o_2 P) (.node (boot_o_4 P) (.node (boot_o_8 P) (.node (o16_0 P) (.node (o32_0 P) (.node (o64_0 P) .nil .nil) .nil) (.node (o48_0 P) (.node (o80_0 P) .nil .nil) .nil)) (.node (o24_2 P) (.node (o40_0 P) (.node (o72_0 P) .nil .nil) .nil) (.node (o56_0 P) .nil .nil))) (.node (o12_3 P) (.node (o20_0 P) (.node (o36_0 P) (.node (o68_0 P) .nil .nil) .nil) (.node (o52_0 P) (.node (o84_0 P) .nil .nil) .nil)) (.node (o28_0 P) (.node (o44_0 P) (.node (o76_0 P) .nil .nil) .nil) (.node (o60_0 P) .nil .nil)))) (.node (boot_o_6 P) (.node (boot_o_10 P) (.node (o18_0 P) (.node (o34_0 P) (.node (o66_0 P) .nil .nil) .nil) (.node (o50_0 P) (.node (o82_0 P) .nil .nil) .nil)) (.node (o26_0 P) (.node (o42_0 P) (.node (o74_0 P) .nil .nil) .nil) (.node (o58_0 P) .nil .nil))) (.node (o14_0 P) (.node (o22_0 P) (.node (o38_0 P) (.node (o70_0 P) .nil .nil) .nil) (.node (o54_0 P) (.node (o86_0 P) .nil .nil) .nil)) (.node (o30_0 P) (.node (o46_0 P) (.node (o78_0 P) .nil .nil) .nil) (.node (o62_0 P) .nil .nil))))))
abbrev st_7 (w : World) (os : OsState) : SharedT := SharedT.mk (tr_7 w.params) (nat_lit 88) (@PySem.Life.mk [] [] [] (nat_lit 0) [] [] false (@List.toArray @Nat []) [] (nat_lit 0) false false false ((nat_lit 0) : Int) [((nat_lit 2000) : Int), ((nat_lit 10) : Int), ((nat_lit 10) : Int)] false (nat_lit 0) true [] [] (nat_lit 0) false) (@Array.mk GenState []) (@PySem.Drawn.mk (nat_lit 0) (nat_lit 0) (nat_lit 0) (nat_lit 0)) (nat_lit 287) os
def ss_7 : List Stmt := ((behindTheImports pw).drop 5).take 2
theorem q_7 : ∀ w : World, (fun os => segRunT treeTable pw w 11 ann 1 (nat_lit 427) (st_5 w os) (piecesOf ss_7 env cE (@PySem.Pos.mk (nat_lit 8) (nat_lit 0) (nat_lit 9) (nat_lit 8)) BB)) = fun os => some (Flow.next, st_7 w os, cE, (@PySem.Pos.mk (nat_lit 12) (nat_lit 0) (nat_lit 13) (nat_lit 8))) := fun w => by rw [segRunT_q, table_q]; kernel_rfl
def o3_3 (P : Params) : Obj := (@PySem.Obj.mk (@PySem.Value.type "dict") (@Option.none @Nat) (@PySem.Data.dict (@List.toArray @PySem.DictEntry [(@PySem.DictEntry.mk (@PySem.PyData.keyHash P (Str.ofString "__name__")) (@PySem.Value.str (Str.ofString "__name__") (nat_lit 165)) (@PySem.Value.str (Str.ofString "threeroad.paths") (nat_lit 319))), (@PySem.DictEntry.mk (@PySem.PyData.keyHash P (Str.ofString "__doc__")) (@PySem.Value.str (Str.ofString "__doc__") (nat_lit 166)) Value.none), (@PySem.DictEntry.mk (@PySem.PyData.keyHash P (Str.ofString "__package__")) (@PySem.Value.str (Str.ofString "__package__") (nat_lit 167)) Value.none), (@PySem.DictEntry.mk (@PySem.PyData.keyHash P (Str.ofString "__loader__")) (@PySem.Value.str (Str.ofString "__loader__") (nat_lit 168)) (@PySem.Value.builtin "__main__.__loader__#opaque")), (@PySem.DictEntry.mk (@PySem.PyData.keyHash P (Str.ofString "__spec__")) (@PySem.Value.str (Str.ofString "__spec__") (nat_lit 169)) Value.none), (@PySem.DictEntry.mk (@PySem.PyData.keyHash P (Str.ofString "__annotations__")) (@PySem.Value.str (Str.ofString "__annotations__") (nat_lit 170)) (.ref (nat_lit 6))), (@PySem.DictEntry.mk (@PySem.PyData.keyHash P (Str.ofString "__builtins__")) (@PySem.Value.str (Str.ofString "__builtins__") (nat_lit 171)) (.ref (nat_lit 4))), (@PySem.DictEntry.mk (@PySem.PyData.keyHash P (Str.ofString "__file__")) (@PySem.Value.str (Str.ofString "__file__") (nat_lit 173)) (@PySem.Value.str (Str.ofString "/claim/cut.py") (nat_lit 172))), (@PySem.DictEntry.mk (@PySem.PyData.keyHash P (Str.ofString "__cached__")) (@PySem.Value.str (Str.ofString "__cached__") (nat_lit 174)) Value.none), (@PySem.DictEntry.mk (@PySem.PyData.keyHash P (Str.ofString "RoadError")) (@PySem.Value.str (Str.ofString "RoadError") (nat_lit 206)) (.ref (nat_lit 24))), (@PySem.DictEntry.mk (@PySem.PyData.keyHash P (Str.ofString "NoPath")) (@PySem.Value.str (Str.ofString "NoPath") (nat_lit 222)) (.ref (nat_lit 37))), (@PySem.DictEntry.mk (@PySem.PyData.keyHash P (Str.ofString "NoFile")) (@PySem.Value.str (Str.ofString "NoFile") (nat_lit 238)) (.ref (nat_lit 49))), (@PySem.DictEntry.mk (@PySem.PyData.keyHash P (Str.ofString "InTheWay")) (@PySem.Value.str (Str.ofString "InTheWay") (nat_lit 254)) (.ref (nat_lit 61))), (@PySem.DictEntry.mk (@PySem.PyData.keyHash P (Str.ofString "NoClash")) (@PySem.Value.str (Str.ofString "NoClash") (nat_lit 270)) (.ref (nat_lit 73))), (@PySem.DictEntry.mk (@PySem.PyData.keyHash P (Str.ofString "Clashed")) (@PySem.Value.str (Str.ofString "Clashed") (nat_lit 286)) (.ref (nat_lit 85))), (@PySem.DictEntry.mk (@PySem.PyData.keyHash P (Str.ofString "NoVersion")) (@PySem.Value.str (Str.ofString "NoVersion") (nat_lit 302)) (.ref (nat_lit 97))), (@PySem.DictEntry.mk (@PySem.PyData.keyHash P (Str.ofString "SameVersion")) (@PySem.Value.str (Str.ofString "SameVersion") (nat_lit 318)) (.ref (nat_lit 109))), (@PySem.DictEntry.mk (@PySem.PyData.keyHash P (Str.ofString "SIGNS")) (@PySem.Value.str (Str.ofString "SIGNS") (nat_lit 322)) (@PySem.Value.str (Str.ofString "abcdefghijklmnopqrstuvwxyzABCDEFGHIJKLMNOPQRSTUVWXYZ0123456789.-_") (nat_lit 321)))]) (nat_lit 18)) (@List.toArray (@Option @PySem.Value) []))
def o12_4 (P : Params) : Obj := (@PySem.Obj.mk Value.none (@Option.none @Nat) (@PySem.Data.fields (@List.toArray @PySem.Value [(@PySem.Value.int ((nat_lit 2) : Int) (nat_lit 0)), (@PySem.Value.int ((nat_lit 0) : Int) (nat_lit 0)), (.ref (nat_lit 20)), (@PySem.Value.int ((nat_lit 4) : Int) (nat_lit 0)), (@PySem.Value.int ((nat_lit 0) : Int) (nat_lit 0)), (.ref (nat_lit 33)), (@PySem.Value.int ((nat_lit 6) : Int) (nat_lit 0)), (@PySem.Value.int ((nat_lit 0) : Int) (nat_lit 0)), (.ref (nat_lit 45)), (@PySem.Value.int ((nat_lit 8) : Int) (nat_lit 0)), (@PySem.Value.int ((nat_lit 0) : Int) (nat_lit 0)), (.ref (nat_lit 57)), (@PySem.Value.int ((nat_lit 10) : Int) (nat_lit 0)), (@PySem.Value.int ((nat_lit 0) : Int) (nat_lit 0)), (.ref (nat_lit 69)), (@PySem.Value.int ((nat_lit 12) : Int) (nat_lit 0)), (@PySem.Value.int ((nat_lit 0) : Int) (nat_lit 0)), (.ref (nat_lit 81)), (@PySem.Value.int ((nat_lit 14) : Int) (nat_lit 0)), (@PySem.Value.int ((nat_lit 0) : Int) (nat_lit 0)), (.ref (nat_lit 93)), (@PySem.Value.int ((nat_lit 16) : Int) (nat_lit 0)), (@PySem.Value.int ((nat_lit 0) : Int) (nat_lit 0)), (.ref (nat_lit 105))])) (@List.toArray (@Option @PySem.Value) []))
def o24_3 (P : Params) : Obj := (@PySem.Obj.mk (@PySem.Value.type "type") (@Option.none @Nat) (@PySem.Data.cls (@PySem.ClassData.mk (Str.ofString "RoadError") [(@PySem.Value.type "ValueError")] [(.ref (nat_lit 24)), (@PySem.Value.type "ValueError"), (@PySem.Value.type "Exception"), (@PySem.Value.type "BaseException"), (@PySem.Value.type "object")] (nat_lit 23) (Str.ofString "RoadError") true [] [(.ref (nat_lit 37)), (.ref (nat_lit 49)), (.ref (nat_lit 61)), (.ref (nat_lit 73)), (.ref (nat_lit 85)), (.ref (nat_lit 97)), (.ref (nat_lit 109))] false (@Option.none @Bool) false)) (@List.toArray (@Option @PySem.Value) [(@Option.some @PySem.Value (.ref (nat_lit 15))), (@Option.none @PySem.Value), (@Option.some @PySem.Value (@PySem.Value.str (Str.ofString "RoadError") (nat_lit 189))), (@Option.some @PySem.Value (@PySem.Value.str (Str.ofString "RoadError") (nat_lit 197))), (@Option.some @PySem.Value (@PySem.Value.builtin "ValueError.__new__")), (@Option.some @PySem.Value (@PySem.Value.bool true))]))
def o88_0 (P : Params) : Obj := (@PySem.Obj.mk (@PySem.Value.type "tuple") (@Option.none @Nat) (@PySem.Data.seq (@List.toArray @PySem.Value [(.ref (nat_lit 24))]) (nat_lit 0)) (@List.toArray (@Option @PySem.Value) []))
def o89_0 (P : Params) : Obj := (@PySem.Obj.mk (@PySem.Value.type "builtin_function_or_method") (@Option.none @Nat) (@PySem.Data.fields (@List.toArray @PySem.Value [(@PySem.Value.builtin "type.__prepare__"), (@PySem.Value.type "type")])) (@List.toArray (@Option @PySem.Value) []))
def o90_0 (P : Params) : Obj := (@PySem.Obj.mk (@PySem.Value.type "dict") (@Option.none @Nat) (@PySem.Data.dict (@List.toArray @PySem.DictEntry [(@PySem.DictEntry.mk (@PySem.PyData.keyHash P (Str.ofString "__module__")) (@PySem.Value.str (Str.ofString "__module__") (nat_lit 294)) (@PySem.Value.str (Str.ofString "threeroad.errors") (nat_lit 187))), (@PySem.DictEntry.mk (@PySem.PyData.keyHash P (Str.ofString "__qualname__")) (@PySem.Value.str (Str.ofString "__qualname__") (nat_lit 296)) (@PySem.Value.str (Str.ofString "NoVersion") (nat_lit 295))), (@PySem.DictEntry.mk (@PySem.PyData.keyHash P (Str.ofString "__firstlineno__")) (@PySem.Value.str (Str.ofString "__firstlineno__") (nat_lit 298)) (@PySem.Value.int ((nat_lit 14) : Int) (nat_lit 297))), (@PySem.DictEntry.mk (@PySem.PyData.keyHash P (Str.ofString "__static_attributes__")) (@PySem.Value.str (Str.ofString "__static_attributes__") (nat_lit 299)) (.ref (nat_lit 95)))]) (nat_lit 4)) (@List.toArray (@Option @PySem.Value) []))
def o91_0 (P : Params) : Obj := (@PySem.Obj.mk (@PySem.Value.type "tuple") (@Option.none @Nat) (@PySem.Data.seq (@List.toArray @PySem.Value []) (nat_lit 0)) (@List.toArray (@Option @PySem.Value) []))
def o92_0 (P : Params) : Obj := (@PySem.Obj.mk Value.none (@Option.none @Nat) (@PySem.Data.fields (@List.toArray @PySem.Value [])) (@List.toArray (@Option @PySem.Value) []))
def o93_0 (P : Params) : Obj := (@PySem.Obj.mk (@PySem.Value.type "code") (@Option.none @Nat) (@PySem.Data.fields (@List.toArray @PySem.Value [(@PySem.Value.str (Str.ofString "NoVersion") (nat_lit 289)), (@PySem.Value.str (Str.ofString "NoVersion") (nat_lit 290)), (@PySem.Value.str (Str.ofString "/claim/cut.py") (nat_lit 291)), (@PySem.Value.int ((nat_lit 14) : Int) (nat_lit 0)), (@PySem.Value.int ((nat_lit 0) : Int) (nat_lit 0)), (@PySem.Value.int ((nat_lit 0) : Int) (nat_lit 0)), (@PySem.Value.int ((nat_lit 0) : Int) (nat_lit 0)), (@PySem.Value.int ((nat_lit 0) : Int) (nat_lit 0)), (.ref (nat_lit 91)), (@PySem.Value.bool false), (@PySem.Value.int ((nat_lit 181) : Int) (nat_lit 0)), (.ref (nat_lit 92)), Value.none, Value.none, Value.none, Value.none, (@PySem.Value.int ((nat_lit 292) : Int) (nat_lit 0)), (@PySem.Value.int ((nat_lit 14) : Int) (nat_lit 0)), (@PySem.Value.str (Str.ofString "/claim/cut.py") (nat_lit 293))])) (@List.toArray (@Option @PySem.Value) []))
def o94_0 (P : Params) : Obj := (@PySem.Obj.mk (@PySem.Value.type "frame") (@Option.none @Nat) @PySem.Data.plain (@List.toArray (@Option @PySem.Value) [(@Option.some @PySem.Value (.ref (nat_lit 93))), (@Option.some @PySem.Value (.ref (nat_lit 3))), (@Option.some @PySem.Value (.ref (nat_lit 90))), (@Option.none @PySem.Value), (@Option.some @PySem.Value (@PySem.Value.str (Str.ofString "threeroad.errors") (nat_lit 187))), (@Option.none @PySem.Value), (@Option.some @PySem.Value (.ref (nat_lit 0)))]))
def o95_0 (P : Params) : Obj := (@PySem.Obj.mk (@PySem.Value.type "tuple") (@Option.none @Nat) (@PySem.Data.seq (@List.toArray @PySem.Value []) (nat_lit 0)) (@List.toArray (@Option @PySem.Value) []))
def o96_0 (P : Params) : Obj := (@PySem.Obj.mk (@PySem.Value.type "dict") (@Option.none @Nat) (@PySem.Data.dict (@List.toArray @PySem.DictEntry [(@PySem.DictEntry.mk (@PySem.PyData.keyHash P (Str.ofString "__module__")) (@PySem.Value.str (Str.ofString "__module__") (nat_lit 294)) (@PySem.Value.str (Str.ofString "threeroad.errors") (nat_lit 187))), (@PySem.DictEntry.mk (@PySem.PyData.keyHash P (Str.ofString "__firstlineno__")) (@PySem.Value.str (Str.ofString "__firstlineno__") (nat_lit 298)) (@PySem.Value.int ((nat_lit 14) : Int) (nat_lit 297))), (@PySem.DictEntry.mk (@PySem.PyData.keyHash P (Str.ofString "__static_attributes__")) (@PySem.Value.str (Str.ofString "__static_attributes__") (nat_lit 299)) (.ref (nat_lit 95))), (@PySem.DictEntry.mk (@PySem.PyData.keyHash P (Str.ofString "__doc__")) (@PySem.Value.str (Str.ofString "__doc__") (nat_lit 300)) Value.none)]) (nat_lit 2)) (@List.toArray (@Option @PySem.Value) []))
def o97_0 (P : Params) : Obj := (@PySem.Obj.mk (@PySem.Value.type "type") (@Option.none @Nat) (@PySem.Data.cls (@PySem.ClassData.mk (Str.ofString "NoVersion") [(.ref (nat_lit 24))] [(.ref (nat_lit 97)), (.ref (nat_lit 24)), (@PySem.Value.type "ValueError"), (@PySem.Value.type "Exception"), (@PySem.Value.type "BaseException"), (@PySem.Value.type "object")] (nat_lit 96) (Str.ofString "NoVersion") true [] [] false (@Option.none @Bool) false)) (@List.toArray (@Option @PySem.Value) [(@Option.some @PySem.Value (.ref (nat_lit 88))), (@Option.none @PySem.Value), (@Option.some @PySem.Value (@PySem.Value.str (Str.ofString "NoVersion") (nat_lit 287))), (@Option.some @PySem.Value (@PySem.Value.str (Str.ofString "NoVersion") (nat_lit 295))), (@Option.some @PySem.Value (@PySem.Value.builtin "ValueError.__new__")), (@Option.some @PySem.Value (@PySem.Value.bool true))]))
def o98_0 (P : Params) : Obj := (@PySem.Obj.mk (@PySem.Value.type "super") (@Option.none @Nat) (@PySem.Data.fields (@List.toArray @PySem.Value [(.ref (nat_lit 97)), (.ref (nat_lit 97)), (.ref (nat_lit 97))])) (@List.toArray (@Option @PySem.Value) []))
def o99_0 (P : Params) : Obj := (@PySem.Obj.mk (@PySem.Value.type "builtin_function_or_method") (@Option.none @Nat) (@PySem.Data.fields (@List.toArray @PySem.Value [(@PySem.Value.builtin "object.__init_subclass__"), (.ref (nat_lit 97))])) (@List.toArray (@Option @PySem.Value) []))
def o100_0 (P : Params) : Obj := (@PySem.Obj.mk (@PySem.Value.type "tuple") (@Option.none @Nat) (@PySem.Data.seq (@List.toArray @PySem.Value [(.ref (nat_lit 24))]) (nat_lit 0)) (@List.toArray (@Option @PySem.Value) []))
def o101_0 (P : Params) : Obj := (@PySem.Obj.mk (@PySem.Value.type "builtin_function_or_method") (@Option.none @Nat) (@PySem.Data.fields (@List.toArray @PySem.Value [(@PySem.Value.builtin "type.__prepare__"), (@PySem.Value.type "type")])) (@List.toArray (@Option @PySem.Value) []))
def o102_0 (P : Params) : Obj := (@PySem.Obj.mk (@PySem.Value.type "dict") (@Option.none @Nat) (@PySem.Data.dict (@List.toArray @PySem.DictEntry [(@PySem.DictEntry.mk (@PySem.PyData.keyHash P (Str.ofString "__module__")) (@PySem.Value.str (Str.ofString "__module__") (nat_lit 310)) (@PySem.Value.str (Str.ofString "threeroad.errors") (nat_lit 187))), (@PySem.DictEntry.mk (@PySem.PyData.keyHash P (Str.ofString "__qualname__")) (@PySem.Value.str (Str.ofString "__qualname__") (nat_lit 312)) (@PySem.Value.str (Str.ofString "SameVersion") (nat_lit 311))), (@PySem.DictEntry.mk (@PySem.PyData.keyHash P (Str.ofString "__firstlineno__")) (@PySem.Value.str (Str.ofString "__firstlineno__") (nat_lit 314)) (@PySem.Value.int ((nat_lit 16) : Int) (nat_lit 313))), (@PySem.DictEntry.mk (@PySem.PyData.keyHash P (Str.ofString "__static_attributes__")) (@PySem.Value.str (Str.ofString "__static_attributes__") (nat_lit 315)) (.ref (nat_lit 107)))]) (nat_lit 4)) (@List.toArray (@Option @PySem.Value) []))
def o103_0 (P : Params) : Obj := (@PySem.Obj.mk (@PySem.Value.type "tuple") (@Option.none @Nat) (@PySem.Data.seq (@List.toArray @PySem.Value []) (nat_lit 0)) (@List.toArray (@Option @PySem.Value) []))
def o104_0 (P : Params) : Obj := (@PySem.Obj.mk Value.none (@Option.none @Nat) (@PySem.Data.fields (@List.toArray @PySem.Value [])) (@List.toArray (@Option @PySem.Value) []))
def o105_0 (P : Params) : Obj := (@PySem.Obj.mk (@PySem.Value.type "code") (@Option.none @Nat) (@PySem.Data.fields (@List.toArray @PySem.Value [(@PySem.Value.str (Str.ofString "SameVersion") (nat_lit 305)), (@PySem.Value.str (Str.ofString "SameVersion") (nat_lit 306)), (@PySem.Value.str (Str.ofString "/claim/cut.py") (nat_lit 307)), (@PySem.Value.int ((nat_lit 16) : Int) (nat_lit 0)), (@PySem.Value.int ((nat_lit 0) : Int) (nat_lit 0)), (@PySem.Value.int ((nat_lit 0) : Int) (nat_lit 0)), (@PySem.Value.int ((nat_lit 0) : Int) (nat_lit 0)), (@PySem.Value.int ((nat_lit 0) : Int) (nat_lit 0)), (.ref (nat_lit 103)), (@PySem.Value.bool false), (@PySem.Value.int ((nat_lit 181) : Int) (nat_lit 0)), (.ref (nat_lit 104)), Value.none, Value.none, Value.none, Value.none, (@PySem.Value.int ((nat_lit 308) : Int) (nat_lit 0)), (@PySem.Value.int ((nat_lit 16) : Int) (nat_lit 0)), (@PySem.Value.str (Str.ofString "/claim/cut.py") (nat_lit 309))])) (@List.toArray (@Option @PySem.Value) []))
def o106_0 (P : Params) : Obj := (@PySem.Obj.mk (@PySem.Value.type "frame") (@Option.none @Nat) @PySem.Data.plain (@List.toArray (@Option @PySem.Value) [(@Option.some @PySem.Value (.ref (nat_lit 105))), (@Option.some @PySem.Value (.ref (nat_lit 3))), (@Option.some @PySem.Value (.ref (nat_lit 102))), (@Option.none @PySem.Value), (@Option.some @PySem.Value (@PySem.Value.str (Str.ofString "threeroad.errors") (nat_lit 187))), (@Option.none @PySem.Value), (@Option.some @PySem.Value (.ref (nat_lit 0)))]))
def o107_0 (P : Params) : Obj := (@PySem.Obj.mk (@PySem.Value.type "tuple") (@Option.none @Nat) (@PySem.Data.seq (@List.toArray @PySem.Value []) (nat_lit 0)) (@List.toArray (@Option @PySem.Value) []))
def o108_0 (P : Params) : Obj := (@PySem.Obj.mk (@PySem.Value.type "dict") (@Option.none @Nat) (@PySem.Data.dict (@List.toArray @PySem.DictEntry [(@PySem.DictEntry.mk (@PySem.PyData.keyHash P (Str.ofString "__module__")) (@PySem.Value.str (Str.ofString "__module__") (nat_lit 310)) (@PySem.Value.str (Str.ofString "threeroad.errors") (nat_lit 187))), (@PySem.DictEntry.mk (@PySem.PyData.keyHash P (Str.ofString "__firstlineno__")) (@PySem.Value.str (Str.ofString "__firstlineno__") (nat_lit 314)) (@PySem.Value.int ((nat_lit 16) : Int) (nat_lit 313))), (@PySem.DictEntry.mk (@PySem.PyData.keyHash P (Str.ofString "__static_attributes__")) (@PySem.Value.str (Str.ofString "__static_attributes__") (nat_lit 315)) (.ref (nat_lit 107))), (@PySem.DictEntry.mk (@PySem.PyData.keyHash P (Str.ofString "__doc__")) (@PySem.Value.str (Str.ofString "__doc__") (nat_lit 316)) Value.none)]) (nat_lit 2)) (@List.toArray (@Option @PySem.Value) []))
def o109_0 (P : Params) : Obj := (@PySem.Obj.mk (@PySem.Value.type "type") (@Option.none @Nat) (@PySem.Data.cls (@PySem.ClassData.mk (Str.ofString "SameVersion") [(.ref (nat_lit 24))] [(.ref (nat_lit 109)), (.ref (nat_lit 24)), (@PySem.Value.type "ValueError"), (@PySem.Value.type "Exception"), (@PySem.Value.type "BaseException"), (@PySem.Value.type "object")] (nat_lit 108) (Str.ofString "SameVersion") true [] [] false (@Option.none @Bool) false)) (@List.toArray (@Option @PySem.Value) [(@Option.some @PySem.Value (.ref (nat_lit 100))), (@Option.none @PySem.Value), (@Option.some @PySem.Value (@PySem.Value.str (Str.ofString "SameVersion") (nat_lit 303))), (@Option.some @PySem.Value (@PySem.Value.str (Str.ofString "SameVersion") (nat_lit 311))), (@Option.some @PySem.Value (@PySem.Value.builtin "ValueError.__new__")), (@Option.some @PySem.Value (@PySem.Value.bool true))]))
def o110_0 (P : Params) : Obj := (@PySem.Obj.mk (@PySem.Value.type "super") (@Option.none @Nat) (@PySem.Data.fields (@List.toArray @PySem.Value [(.ref (nat_lit 109)), (.ref (nat_lit 109)), (.ref (nat_lit 109))])) (@List.toArray (@Option @PySem.Value) []))
def o111_0 (P : Params) : Obj := (@PySem.Obj.mk (@PySem.Value.type "builtin_function_or_method") (@Option.none @Nat) (@PySem.Data.fields (@List.toArray @PySem.Value [(@PySem.Value.builtin "object.__init_subclass__"), (.ref (nat_lit 109))])) (@List.toArray (@Option @PySem.Value) []))
def tr_11 (P : Params) : PySem.W.BT := (.node (boot_o_0 P) (.node (boot_o_1 P) (.node (o3_3 P) (.node (boot_o_7 P) (.node (o15_0 P) (.node (o31_0 P) (.node (o63_0 P) .nil .nil) (.node (o95_0 P) .nil .nil)) (.node (o47_0 P) (.node (o79_0 P) .nil .nil) (.node (o111_0 P) .nil .nil))) (.node (o23_0 P) (.node (o39_0 P) (.node (o71_0 P) .nil .nil) (.node (o103_0 P) .nil .nil)) (.node (o55_0 P) (.node (o87_0 P) .nil .nil) .nil))) (.node (o11_0 P) (.node (o19_0 P) (.node (o35_0 P) (.node (o67_0 P) .nil .nil) (.node (o99_0 P) .nil .nil)) (.node (o51_0 P) (.node (o83_0 P) .nil .nil) .nil)) (.node (o27_0 P) (.node (o43_0 P) (.node (o75_0 P) .nil .nil) (.node (o107_0 P) .nil .nil)) (.node (o59_0 P) (.node (o91_0 P) .nil .nil) .nil)))) (.node (boot_o_5 P) (.node (boot_o_9 P) (.node (o17_0 P) (.node (o33_0 P) (.node (o65_0 P) .nil .nil) (.node (o97_0 P) .nil .nil)) (.node (o49_0 P) (.node (o81_0 P) .nil .nil) .nil)) (.node (o25_0 P) (.node (o41_0 P) (.node (o73_0 P) .nil .nil) (.node (o105_0 P) .nil .nil)) (.node (o57_0 P) (.node (o89_0 P) .nil .nil) .nil))) (.node (o13_0 P) (.node (o21_0 P) (.node (o37_0 P) (.node (o69_0 P) .nil .nil) (.node (o101_0 P) .nil .nil)) (.node (o53_0 P) (.node (o85_0 P) .nil .nil) .nil)) (.node (o29_0 P) (.node (o45_0 P) (.node (o77_0 P) .nil .nil) (.node (o109_0 P) .nil .nil)) (.node (o61_0 P) (.node (o93_0 P) .nil .nil) .nil))))) (.node (boot_o_2 P) (.node (boot_o_4 P) (.node (boot_o_8 P) (.node (o16_0 P) (.node (o32_0 P) (.node (o64_0 P) .nil .nil) (.node (o96_0 P) .nil .nil)) (.node (o48_0 P) (.node (o80_0 P) .nil .nil) .nil)) (.node (o24_3 P) (.node (o40_0 P) (.node (o72_0 P) .nil .nil) (.node (o104_0 P) .nil .nil)) (.node (o56_0 P) (.node (o88_0 P) .nil .nil) .nil))) (.node (o12_4 P) (.node (o20_0 P) (.node (o36_0 P) (.node (o68_0 P) .nil .nil) (.node (o100_0 P) .nil .nil)) (.node (o52_0 P) (.node (o84_0 P) .nil .nil) .nil)) (.node (o28_0 P) (.node (o44_0 P) (.node (o76_0 P) .nil .nil) (.node (o108_0 P) .nil .nil)) (.node (o60_0 P) (.node (o92_0 P) .nil .nil) .nil)))) (.node (boot_o_6 P) (.node (boot_o_10 P) (.node (o18_0 P) (.node (o34_0 P) (.node (o66_0 P) .nil .nil) (.node (o98_0 P) .nil .nil)) (.node (o50_0 P) (.node (o82_0 P) .nil .nil) .nil)) (.node (o26_0 P) (.node (o42_0 P) (.node (o74_0 P) .nil .nil) (.node (o106_0 P) .nil .nil)) (.node (o58_0 P) (.node (o90_0 P) .nil .nil) .nil))) (.node (o14_0 P) (.node (o22_0 P) (.node (o38_0 P) (.node (o70_0 P) .nil .nil) (.node (o102_0 P) .nil .nil)) (.node (o54_0 P) (.node (o86_0 P) .nil .nil) .nil)) (.node (o30_0 P) (.node (o46_0 P) (.node (o78_0 P) .nil .nil) (.node (o110_0 P) .nil .nil)) (.node (o62_0 P) (.node (o94_0 P) .nil .nil) .nil))))))
abbrev st_11 (w : World) (os : OsState) : SharedT := SharedT.mk (tr_11 w.params) (nat_lit 112) (@PySem.Life.mk [] [] [] (nat_lit 0) [] [] false (@List.toArray @Nat []) [] (nat_lit 0) false false false ((nat_lit 0) : Int) [((nat_lit 2000) : Int), ((nat_lit 10) : Int), ((nat_lit 10) : Int)] false (nat_lit 0) true [] [] (nat_lit 0) false) (@Array.mk GenState []) (@PySem.Drawn.mk (nat_lit 0) (nat_lit 0) (nat_lit 0) (nat_lit 0)) (nat_lit 323) os
def ss_11 : List Stmt := ((behindTheImports pw).drop 7).take 4
theorem q_11 : ∀ w : World, (fun os => segRunT treeTable pw w 11 ann 1 (nat_lit 445) (st_7 w os) (piecesOf ss_11 env cE (@PySem.Pos.mk (nat_lit 12) (nat_lit 0) (nat_lit 13) (nat_lit 8)) BB)) = fun os => some (Flow.next, st_11 w os, cE, (@PySem.Pos.mk (nat_lit 19) (nat_lit 0) (nat_lit 19) (nat_lit 5))) := fun w => by rw [segRunT_q, table_q]; kernel_rfl
def o3_4 (P : Params) : Obj := (@PySem.Obj.mk (@PySem.Value.type "dict") (@Option.none @Nat) (@PySem.Data.dict (@List.toArray @PySem.DictEntry [(@PySem.DictEntry.mk (@PySem.PyData.keyHash P (Str.ofString "__name__")) (@PySem.Value.str (Str.ofString "__name__") (nat_lit 165)) (@PySem.Value.str (Str.ofString "law_uf050007_04") (nat_lit 365))), (@PySem.DictEntry.mk (@PySem.PyData.keyHash P (Str.ofString "__doc__")) (@PySem.Value.str (Str.ofString "__doc__") (nat_lit 166)) Value.none), (@PySem.DictEntry.mk (@PySem.PyData.keyHash P (Str.ofString "__package__")) (@PySem.Value.str (Str.ofString "__package__") (nat_lit 167)) Value.none), (@PySem.DictEntry.mk (@PySem.PyData.keyHash P (Str.ofString "__loader__")) (@PySem.Value.str (Str.ofString "__loader__") (nat_lit 168)) (@PySem.Value.builtin "__main__.__loader__#opaque")), (@PySem.DictEntry.mk (@PySem.PyData.keyHash P (Str.ofString "__spec__")) (@PySem.Value.str (Str.ofString "__spec__") (nat_lit 169)) Value.none), (@PySem.DictEntry.mk (@PySem.PyData.keyHash P (Str.ofString "__annotations__")) (@PySem.Value.str (Str.ofString "__annotations__") (nat_lit 170)) (.ref (nat_lit 6))), (@PySem.DictEntry.mk (@PySem.PyData.keyHash P (Str.ofString "__builtins__")) (@PySem.Value.str (Str.ofString "__builtins__") (nat_lit 171)) (.ref (nat_lit 4))), (@PySem.DictEntry.mk (@PySem.PyData.keyHash P (Str.ofString "__file__")) (@PySem.Value.str (Str.ofString "__file__") (nat_lit 173)) (@PySem.Value.str (Str.ofString "/claim/cut.py") (nat_lit 172))), (@PySem.DictEntry.mk (@PySem.PyData.keyHash P (Str.ofString "__cached__")) (@PySem.Value.str (Str.ofString "__cached__") (nat_lit 174)) Value.none), (@PySem.DictEntry.mk (@PySem.PyData.keyHash P (Str.ofString "RoadError")) (@PySem.Value.str (Str.ofString "RoadError") (nat_lit 206)) (.ref (nat_lit 24))), (@PySem.DictEntry.mk (@PySem.PyData.keyHash P (Str.ofString "NoPath")) (@PySem.Value.str (Str.ofString "NoPath") (nat_lit 222)) (.ref (nat_lit 37))), (@PySem.DictEntry.mk (@PySem.PyData.keyHash P (Str.ofString "NoFile")) (@PySem.Value.str (Str.ofString "NoFile") (nat_lit 238)) (.ref (nat_lit 49))), (@PySem.DictEntry.mk (@PySem.PyData.keyHash P (Str.ofString "InTheWay")) (@PySem.Value.str (Str.ofString "InTheWay") (nat_lit 254)) (.ref (nat_lit 61))), (@PySem.DictEntry.mk (@PySem.PyData.keyHash P (Str.ofString "NoClash")) (@PySem.Value.str (Str.ofString "NoClash") (nat_lit 270)) (.ref (nat_lit 73))), (@PySem.DictEntry.mk (@PySem.PyData.keyHash P (Str.ofString "Clashed")) (@PySem.Value.str (Str.ofString "Clashed") (nat_lit 286)) (.ref (nat_lit 85))), (@PySem.DictEntry.mk (@PySem.PyData.keyHash P (Str.ofString "NoVersion")) (@PySem.Value.str (Str.ofString "NoVersion") (nat_lit 302)) (.ref (nat_lit 97))), (@PySem.DictEntry.mk (@PySem.PyData.keyHash P (Str.ofString "SameVersion")) (@PySem.Value.str (Str.ofString "SameVersion") (nat_lit 318)) (.ref (nat_lit 109))), (@PySem.DictEntry.mk (@PySem.PyData.keyHash P (Str.ofString "SIGNS")) (@PySem.Value.str (Str.ofString "SIGNS") (nat_lit 322)) (@PySem.Value.str (Str.ofString "abcdefghijklmnopqrstuvwxyzABCDEFGHIJKLMNOPQRSTUVWXYZ0123456789.-_") (nat_lit 321))), (@PySem.DictEntry.mk (@PySem.PyData.keyHash P (Str.ofString "MOST_PARTS")) (@PySem.Value.str (Str.ofString "MOST_PARTS") (nat_lit 324)) (@PySem.Value.int ((nat_lit 8) : Int) (nat_lit 323))), (@PySem.DictEntry.mk (@PySem.PyData.keyHash P (Str.ofString "LONGEST_PART")) (@PySem.Value.str (Str.ofString "LONGEST_PART") (nat_lit 326)) (@PySem.Value.int ((nat_lit 12) : Int) (nat_lit 325))), (@PySem.DictEntry.mk (@PySem.PyData.keyHash P (Str.ofString "is_part")) (@PySem.Value.str (Str.ofString "is_part") (nat_lit 334)) (.ref (nat_lit 118))), (@PySem.DictEntry.mk (@PySem.PyData.keyHash P (Str.ofString "is_path")) (@PySem.Value.str (Str.ofString "is_path") (nat_lit 343)) (.ref (nat_lit 125))), (@PySem.DictEntry.mk (@PySem.PyData.keyHash P (Str.ofString "is_beneath")) (@PySem.Value.str (Str.ofString "is_beneath") (nat_lit 351)) (.ref (nat_lit 132))), (@PySem.DictEntry.mk (@PySem.PyData.keyHash P (Str.ofString "done")) (@PySem.Value.str (Str.ofString "done") (nat_lit 364)) (.ref (nat_lit 139))), (@PySem.DictEntry.mk (@PySem.PyData.keyHash P (Str.ofString "_law_cell_at")) (@PySem.Value.str (Str.ofString "_law_cell_at") (nat_lit 374)) (.ref (nat_lit 146))), (@PySem.DictEntry.mk (@PySem.PyData.keyHash P (Str.ofString "_law_sign_by")) (@PySem.Value.str (Str.ofString "_law_sign_by") (nat_lit 381)) (.ref (nat_lit 153))), (@PySem.DictEntry.mk (@PySem.PyData.keyHash P (Str.ofString "_law_name_by")) (@PySem.Value.str (Str.ofString "_law_name_by") (nat_lit 387)) (.ref (nat_lit 158))), (@PySem.DictEntry.mk (@PySem.PyData.keyHash P (Str.ofString "_law_path_by")) (@PySem.Value.str (Str.ofString "_law_path_by") (nat_lit 393)) (.ref (nat_lit 163))), (@PySem.DictEntry.mk (@PySem.PyData.keyHash P (Str.ofString "_law_line_by")) (@PySem.Value.str (Str.ofString "_law_line_by") (nat_lit 399)) (.ref (nat_lit 168))), (@PySem.DictEntry.mk (@PySem.PyData.keyHash P (Str.ofString "_law_is_free")) (@PySem.Value.str (Str.ofString "_law_is_free") (nat_lit 408)) (.ref (nat_lit 175))), (@PySem.DictEntry.mk (@PySem.PyData.keyHash P (Str.ofString "_law_tree_by")) (@PySem.Value.str (Str.ofString "_law_tree_by") (nat_lit 423)) (.ref (nat_lit 182))), (@PySem.DictEntry.mk (@PySem.PyData.keyHash P (Str.ofString "_law_told")) (@PySem.Value.str (Str.ofString "_law_told") (nat_lit 429)) (.ref (nat_lit 187))), (@PySem.DictEntry.mk (@PySem.PyData.keyHash P (Str.ofString "_law_path_asked")) (@PySem.Value.str (Str.ofString "_law_path_asked") (nat_lit 442)) (.ref (nat_lit 194)))]) (nat_lit 33)) (@List.toArray (@Option @PySem.Value) []))
def o12_5 (P : Params) : Obj := (@PySem.Obj.mk Value.none (@Option.none @Nat) (@PySem.Data.fields (@List.toArray @PySem.Value [(@PySem.Value.int ((nat_lit 2) : Int) (nat_lit 0)), (@PySem.Value.int ((nat_lit 0) : Int) (nat_lit 0)), (.ref (nat_lit 20)), (@PySem.Value.int ((nat_lit 4) : Int) (nat_lit 0)), (@PySem.Value.int ((nat_lit 0) : Int) (nat_lit 0)), (.ref (nat_lit 33)), (@PySem.Value.int ((nat_lit 6) : Int) (nat_lit 0)), (@PySem.Value.int ((nat_lit 0) : Int) (nat_lit 0)), (.ref (nat_lit 45)), (@PySem.Value.int ((nat_lit 8) : Int) (nat_lit 0)), (@PySem.Value.int ((nat_lit 0) : Int) (nat_lit 0)), (.ref (nat_lit 57)), (@PySem.Value.int ((nat_lit 10) : Int) (nat_lit 0)), (@PySem.Value.int ((nat_lit 0) : Int) (nat_lit 0)), (.ref (nat_lit 69)), (@PySem.Value.int ((nat_lit 12) : Int) (nat_lit 0)), (@PySem.Value.int ((nat_lit 0) : Int) (nat_lit 0)), (.ref (nat_lit 81)), (@PySem.Value.int ((nat_lit 14) : Int) (nat_lit 0)), (@PySem.Value.int ((nat_lit 0) : Int) (nat_lit 0)), (.ref (nat_lit 93)), (@PySem.Value.int ((nat_lit 16) : Int) (nat_lit 0)), (@PySem.Value.int ((nat_lit 0) : Int) (nat_lit 0)), (.ref (nat_lit 105)), (@PySem.Value.int ((nat_lit 22) : Int) (nat_lit 0)), (@PySem.Value.int ((nat_lit 0) : Int) (nat_lit 0)), (.ref (nat_lit 117)), (@PySem.Value.int ((nat_lit 29) : Int) (nat_lit 0)), (@PySem.Value.int ((nat_lit 0) : Int) (nat_lit 0)), (.ref (nat_lit 124)), (@PySem.Value.int ((nat_lit 37) : Int) (nat_lit 0)), (@PySem.Value.int ((nat_lit 0) : Int) (nat_lit 0)), (.ref (nat_lit 131)), (@PySem.Value.int ((nat_lit 40) : Int) (nat_lit 0)), (@PySem.Value.int ((nat_lit 0) : Int) (nat_lit 0)), (.ref (nat_lit 138)), (@PySem.Value.int ((nat_lit 56) : Int) (nat_lit 0)), (@PySem.Value.int ((nat_lit 0) : Int) (nat_lit 0)), (.ref (nat_lit 145)), (@PySem.Value.int ((nat_lit 60) : Int) (nat_lit 0)), (@PySem.Value.int ((nat_lit 0) : Int) (nat_lit 0)), (.ref (nat_lit 152)), (@PySem.Value.int ((nat_lit 62) : Int) (nat_lit 0)), (@PySem.Value.int ((nat_lit 0) : Int) (nat_lit 0)), (.ref (nat_lit 157)), (@PySem.Value.int ((nat_lit 76) : Int) (nat_lit 0)), (@PySem.Value.int ((nat_lit 0) : Int) (nat_lit 0)), (.ref (nat_lit 162)), (@PySem.Value.int ((nat_lit 85) : Int) (nat_lit 0)), (@PySem.Value.int ((nat_lit 0) : Int) (nat_lit 0)), (.ref (nat_lit 167)), (@PySem.Value.int ((nat_lit 92) : Int) (nat_lit 0)), (@PySem.Value.int ((nat_lit 0) : Int) (nat_lit 0)), (.ref (nat_lit 174)), (@PySem.Value.int ((nat_lit 97) : Int) (nat_lit 0)), (@PySem.Value.int ((nat_lit 0) : Int) (nat_lit 0)), (.ref (nat_lit 181)), (@PySem.Value.int ((nat_lit 114) : Int) (nat_lit 0)), (@PySem.Value.int ((nat_lit 0) : Int) (nat_lit 0)), (.ref (nat_lit 186)), (@PySem.Value.int ((nat_lit 123) : Int) (nat_lit 0)), (@PySem.Value.int ((nat_lit 0) : Int) (nat_lit 0)), (.ref (nat_lit 193))])) (@List.toArray (@Option @PySem.Value) []))
def o112_0 (P : Params) : Obj := (@PySem.Obj.mk (@PySem.Value.type "tuple") (@Option.none @Nat) (@PySem.Data.seq (@List.toArray @PySem.Value []) (nat_lit 0)) (@List.toArray (@Option @PySem.Value) []))
def o113_0 (P : Params) : Obj := (@PySem.Obj.mk Value.none (@Option.none @Nat) (@PySem.Data.fields (@List.toArray @PySem.Value [])) (@List.toArray (@Option @PySem.Value) []))
def o114_0 (P : Params) : Obj := (@PySem.Obj.mk (@PySem.Value.type "tuple") (@Option.none @Nat) (@PySem.Data.seq (@List.toArray @PySem.Value [(@PySem.Value.str (Str.ofString "text") (nat_lit 330)), (@PySem.Value.str (Str.ofString "sign") (nat_lit 331))]) (nat_lit 0)) (@List.toArray (@Option @PySem.Value) []))
def o115_0 (P : Params) : Obj := (@PySem.Obj.mk (@PySem.Value.type "tuple") (@Option.none @Nat) (@PySem.Data.seq (@List.toArray @PySem.Value []) (nat_lit 0)) (@List.toArray (@Option @PySem.Value) []))
def o116_0 (P : Params) : Obj := (@PySem.Obj.mk Value.none (@Option.none @Nat) (@PySem.Data.func (@PySem.FuncData.mk (Str.ofString "is_part") (Str.ofString "is_part") (fA TB 13) (@PySem.FuncBody.stmts (fB TB 13)) (fS TB 13) (nat_lit 0) [] Value.none Value.none Value.none Value.none (@Option.none @Nat) Value.none Value.none (nat_lit 0))) (@List.toArray (@Option @PySem.Value) []))
def o117_0 (P : Params) : Obj := (@PySem.Obj.mk (@PySem.Value.type "code") (@Option.none @Nat) (@PySem.Data.fields (@List.toArray @PySem.Value [(@PySem.Value.str (Str.ofString "is_part") (nat_lit 327)), (@PySem.Value.str (Str.ofString "is_part") (nat_lit 328)), (@PySem.Value.str (Str.ofString "/claim/cut.py") (nat_lit 329)), (@PySem.Value.int ((nat_lit 22) : Int) (nat_lit 0)), (@PySem.Value.int ((nat_lit 1) : Int) (nat_lit 0)), (@PySem.Value.int ((nat_lit 0) : Int) (nat_lit 0)), (@PySem.Value.int ((nat_lit 0) : Int) (nat_lit 0)), (@PySem.Value.int ((nat_lit 3) : Int) (nat_lit 0)), (.ref (nat_lit 112)), (@PySem.Value.bool true), (@PySem.Value.int ((nat_lit 181) : Int) (nat_lit 0)), (.ref (nat_lit 113)), Value.none, (.ref (nat_lit 114)), (.ref (nat_lit 115)), (.ref (nat_lit 116)), (@PySem.Value.int ((nat_lit 332) : Int) (nat_lit 0)), (@PySem.Value.int ((nat_lit 22) : Int) (nat_lit 0)), (@PySem.Value.str (Str.ofString "/claim/cut.py") (nat_lit 333))])) (@List.toArray (@Option @PySem.Value) []))
def o118_0 (P : Params) : Obj := (@PySem.Obj.mk (@PySem.Value.type "function") (@Option.none @Nat) (@PySem.Data.func (@PySem.FuncData.mk (Str.ofString "is_part") (Str.ofString "is_part") (fA TB 13) (@PySem.FuncBody.stmts (fB TB 13)) (fS TB 13) (nat_lit 3) [] Value.none Value.none Value.none (@PySem.Value.str (Str.ofString "threeroad.paths") (nat_lit 319)) (@Option.none @Nat) (.ref (nat_lit 117)) Value.none (nat_lit 0))) (@List.toArray (@Option @PySem.Value) []))
def o119_0 (P : Params) : Obj := (@PySem.Obj.mk (@PySem.Value.type "tuple") (@Option.none @Nat) (@PySem.Data.seq (@List.toArray @PySem.Value []) (nat_lit 0)) (@List.toArray (@Option @PySem.Value) []))
def o120_0 (P : Params) : Obj := (@PySem.Obj.mk Value.none (@Option.none @Nat) (@PySem.Data.fields (@List.toArray @PySem.Value [])) (@List.toArray (@Option @PySem.Value) []))
def o121_0 (P : Params) : Obj := (@PySem.Obj.mk (@PySem.Value.type "tuple") (@Option.none @Nat) (@PySem.Data.seq (@List.toArray @PySem.Value [(@PySem.Value.str (Str.ofString "text") (nat_lit 338)), (@PySem.Value.str (Str.ofString "parts") (nat_lit 339)), (@PySem.Value.str (Str.ofString "part") (nat_lit 340))]) (nat_lit 0)) (@List.toArray (@Option @PySem.Value) []))
def o122_0 (P : Params) : Obj := (@PySem.Obj.mk (@PySem.Value.type "tuple") (@Option.none @Nat) (@PySem.Data.seq (@List.toArray @PySem.Value []) (nat_lit 0)) (@List.toArray (@Option @PySem.Value) []))
def o123_0 (P : Params) : Obj := (@PySem.Obj.mk Value.none (@Option.none @Nat) (@PySem.Data.func (@PySem.FuncData.mk (Str.ofString "is_path") (Str.ofString "is_path") (fA TB 14) (@PySem.FuncBody.stmts (fB TB 14)) (fS TB 14) (nat_lit 0) [] Value.none Value.none Value.none Value.none (@Option.none @Nat) Value.none Value.none (nat_lit 0))) (@List.toArray (@Option @PySem.Value) []))
def o124_0 (P : Params) : Obj := (@PySem.Obj.mk (@PySem.Value.type "code") (@Option.none @Nat) (@PySem.Data.fields (@List.toArray @PySem.Value [(@PySem.Value.str (Str.ofString "is_path") (nat_lit 335)), (@PySem.Value.str (Str.ofString "is_path") (nat_lit 336)), (@PySem.Value.str (Str.ofString "/claim/cut.py") (nat_lit 337)), (@PySem.Value.int ((nat_lit 29) : Int) (nat_lit 0)), (@PySem.Value.int ((nat_lit 1) : Int) (nat_lit 0)), (@PySem.Value.int ((nat_lit 0) : Int) (nat_lit 0)), (@PySem.Value.int ((nat_lit 0) : Int) (nat_lit 0)), (@PySem.Value.int ((nat_lit 3) : Int) (nat_lit 0)), (.ref (nat_lit 119)), (@PySem.Value.bool true), (@PySem.Value.int ((nat_lit 181) : Int) (nat_lit 0)), (.ref (nat_lit 120)), Value.none, (.ref (nat_lit 121)), (.ref (nat_lit 122)), (.ref (nat_lit 123)), (@PySem.Value.int ((nat_lit 341) : Int) (nat_lit 0)), (@PySem.Value.int ((nat_lit 29) : Int) (nat_lit 0)), (@PySem.Value.str (Str.ofString "/claim/cut.py") (nat_lit 342))])) (@List.toArray (@Option @PySem.Value) []))
def o125_0 (P : Params) : Obj := (@PySem.Obj.mk (@PySem.Value.type "function") (@Option.none @Nat) (@PySem.Data.func (@PySem.FuncData.mk (Str.ofString "is_path") (Str.ofString "is_path") (fA TB 14) (@PySem.FuncBody.stmts (fB TB 14)) (fS TB 14) (nat_lit 3) [] Value.none Value.none Value.none (@PySem.Value.str (Str.ofString "threeroad.paths") (nat_lit 319)) (@Option.none @Nat) (.ref (nat_lit 124)) Value.none (nat_lit 0))) (@List.toArray (@Option @PySem.Value) []))
def o126_0 (P : Params) : Obj := (@PySem.Obj.mk (@PySem.Value.type "tuple") (@Option.none @Nat) (@PySem.Data.seq (@List.toArray @PySem.Value []) (nat_lit 0)) (@List.toArray (@Option @PySem.Value) []))
def o127_0 (P : Params) : Obj := (@PySem.Obj.mk Value.none (@Option.none @Nat) (@PySem.Data.fields (@List.toArray @PySem.Value [])) (@List.toArray (@Option @PySem.Value) []))
def o128_0 (P : Params) : Obj := (@PySem.Obj.mk (@PySem.Value.type "tuple") (@Option.none @Nat) (@PySem.Data.seq (@List.toArray @PySem.Value [(@PySem.Value.str (Str.ofString "path") (nat_lit 347)), (@PySem.Value.str (Str.ofString "upper") (nat_lit 348))]) (nat_lit 0)) (@List.toArray (@Option @PySem.Value) []))
def o129_0 (P : Params) : Obj := (@PySem.Obj.mk (@PySem.Value.type "tuple") (@Option.none @Nat) (@PySem.Data.seq (@List.toArray @PySem.Value []) (nat_lit 0)) (@List.toArray (@Option @PySem.Value) []))
def o130_0 (P : Params) : Obj := (@PySem.Obj.mk Value.none (@Option.none @Nat) (@PySem.Data.func (@PySem.FuncData.mk (Str.ofString "is_beneath") (Str.ofString "is_beneath") (fA TB 15) (@PySem.FuncBody.stmts (fB TB 15)) (fS TB 15) (nat_lit 0) [] Value.none Value.none Value.none Value.none (@Option.none @Nat) Value.none Value.none (nat_lit 0))) (@List.toArray (@Option @PySem.Value) []))
def o131_0 (P : Params) : Obj := (@PySem.Obj.mk (@PySem.Value.type "code") (@Option.none @Nat) (@PySem.Data.fields (@List.toArray @PySem.Value [(@PySem.Value.str (Str.ofString "is_beneath") (nat_lit 344)), (@PySem.Value.str (Str.ofString "is_beneath") (nat_lit 345)), (@PySem.Value.str (Str.ofString "/claim/cut.py") (nat_lit 346)), (@PySem.Value.int ((nat_lit 37) : Int) (nat_lit 0)), (@PySem.Value.int ((nat_lit 2) : Int) (nat_lit 0)), (@PySem.Value.int ((nat_lit 0) : Int) (nat_lit 0)), (@PySem.Value.int ((nat_lit 0) : Int) (nat_lit 0)), (@PySem.Value.int ((nat_lit 3) : Int) (nat_lit 0)), (.ref (nat_lit 126)), (@PySem.Value.bool true), (@PySem.Value.int ((nat_lit 181) : Int) (nat_lit 0)), (.ref (nat_lit 127)), Value.none, (.ref (nat_lit 128)), (.ref (nat_lit 129)), (.ref (nat_lit 130)), (@PySem.Value.int ((nat_lit 349) : Int) (nat_lit 0)), (@PySem.Value.int ((nat_lit 37) : Int) (nat_lit 0)), (@PySem.Value.str (Str.ofString "/claim/cut.py") (nat_lit 350))])) (@List.toArray (@Option @PySem.Value) []))
def o132_0 (P : Params) : Obj := (@PySem.Obj.mk (@PySem.Value.type "function") (@Option.none @Nat) (@PySem.Data.func (@PySem.FuncData.mk (Str.ofString "is_beneath") (Str.ofString "is_beneath") (fA TB 15) (@PySem.FuncBody.stmts (fB TB 15)) (fS TB 15) (nat_lit 3) [] Value.none Value.none Value.none (@PySem.Value.str (Str.ofString "threeroad.paths") (nat_lit 319)) (@Option.none @Nat) (.ref (nat_lit 131)) Value.none (nat_lit 0))) (@List.toArray (@Option @PySem.Value) []))
def o133_0 (P : Params) : Obj := (@PySem.Obj.mk (@PySem.Value.type "tuple") (@Option.none @Nat) (@PySem.Data.seq (@List.toArray @PySem.Value []) (nat_lit 0)) (@List.toArray (@Option @PySem.Value) []))
def o134_0 (P : Params) : Obj := (@PySem.Obj.mk Value.none (@Option.none @Nat) (@PySem.Data.fields (@List.toArray @PySem.Value [])) (@List.toArray (@Option @PySem.Value) []))
def o135_0 (P : Params) : Obj := (@PySem.Obj.mk (@PySem.Value.type "tuple") (@Option.none @Nat) (@PySem.Data.seq (@List.toArray @PySem.Value [(@PySem.Value.str (Str.ofString "tree") (nat_lit 357)), (@PySem.Value.str (Str.ofString "deed") (nat_lit 358)), (@PySem.Value.str (Str.ofString "path") (nat_lit 359)), (@PySem.Value.str (Str.ofString "fresh") (nat_lit 360)), (@PySem.Value.str (Str.ofString "other") (nat_lit 361))]) (nat_lit 0)) (@List.toArray (@Option @PySem.Value) []))
def o136_0 (P : Params) : Obj := (@PySem.Obj.mk (@PySem.Value.type "tuple") (@Option.none @Nat) (@PySem.Data.seq (@List.toArray @PySem.Value []) (nat_lit 0)) (@List.toArray (@Option @PySem.Value) []))
def o137_0 (P : Params) : Obj := (@PySem.Obj.mk Value.none (@Option.none @Nat) (@PySem.Data.func (@PySem.FuncData.mk (Str.ofString "done") (Str.ofString "done") (fA TB 17) (@PySem.FuncBody.stmts (fB TB 17)) (fS TB 17) (nat_lit 0) [] Value.none Value.none Value.none Value.none (@Option.none @Nat) Value.none Value.none (nat_lit 0))) (@List.toArray (@Option @PySem.Value) []))
def o138_0 (P : Params) : Obj := (@PySem.Obj.mk (@PySem.Value.type "code") (@Option.none @Nat) (@PySem.Data.fields (@List.toArray @PySem.Value [(@PySem.Value.str (Str.ofString "done") (nat_lit 354)), (@PySem.Value.str (Str.ofString "done") (nat_lit 355)), (@PySem.Value.str (Str.ofString "/claim/cut.py") (nat_lit 356)), (@PySem.Value.int ((nat_lit 40) : Int) (nat_lit 0)), (@PySem.Value.int ((nat_lit 2) : Int) (nat_lit 0)), (@PySem.Value.int ((nat_lit 0) : Int) (nat_lit 0)), (@PySem.Value.int ((nat_lit 0) : Int) (nat_lit 0)), (@PySem.Value.int ((nat_lit 3) : Int) (nat_lit 0)), (.ref (nat_lit 133)), (@PySem.Value.bool true), (@PySem.Value.int ((nat_lit 181) : Int) (nat_lit 0)), (.ref (nat_lit 134)), Value.none, (.ref (nat_lit 135)), (.ref (nat_lit 136)), (.ref (nat_lit 137)), (@PySem.Value.int ((nat_lit 362) : Int) (nat_lit 0)), (@PySem.Value.int ((nat_lit 40) : Int) (nat_lit 0)), (@PySem.Value.str (Str.ofString "/claim/cut.py") (nat_lit 363))])) (@List.toArray (@Option @PySem.Value) []))
def o139_0 (P : Params) : Obj := (@PySem.Obj.mk (@PySem.Value.type "function") (@Option.none @Nat) (@PySem.Data.func (@PySem.FuncData.mk (Str.ofString "done") (Str.ofString "done") (fA TB 17) (@PySem.FuncBody.stmts (fB TB 17)) (fS TB 17) (nat_lit 3) [] Value.none Value.none Value.none (@PySem.Value.str (Str.ofString "threeroad.trees") (nat_lit 352)) (@Option.none @Nat) (.ref (nat_lit 138)) Value.none (nat_lit 0))) (@List.toArray (@Option @PySem.Value) []))
def o140_0 (P : Params) : Obj := (@PySem.Obj.mk (@PySem.Value.type "tuple") (@Option.none @Nat) (@PySem.Data.seq (@List.toArray @PySem.Value []) (nat_lit 0)) (@List.toArray (@Option @PySem.Value) []))
def o141_0 (P : Params) : Obj := (@PySem.Obj.mk Value.none (@Option.none @Nat) (@PySem.Data.fields (@List.toArray @PySem.Value [])) (@List.toArray (@Option @PySem.Value) []))
def o142_0 (P : Params) : Obj := (@PySem.Obj.mk (@PySem.Value.type "tuple") (@Option.none @Nat) (@PySem.Data.seq (@List.toArray @PySem.Value [(@PySem.Value.str (Str.ofString "_law_script") (nat_lit 370)), (@PySem.Value.str (Str.ofString "_law_k") (nat_lit 371))]) (nat_lit 0)) (@List.toArray (@Option @PySem.Value) []))
def o143_0 (P : Params) : Obj := (@PySem.Obj.mk (@PySem.Value.type "tuple") (@Option.none @Nat) (@PySem.Data.seq (@List.toArray @PySem.Value []) (nat_lit 0)) (@List.toArray (@Option @PySem.Value) []))
def o144_0 (P : Params) : Obj := (@PySem.Obj.mk Value.none (@Option.none @Nat) (@PySem.Data.func (@PySem.FuncData.mk (Str.ofString "_law_cell_at") (Str.ofString "_law_cell_at") (fA TB 19) (@PySem.FuncBody.stmts (fB TB 19)) (fS TB 19) (nat_lit 0) [] Value.none Value.none Value.none Value.none (@Option.none @Nat) Value.none Value.none (nat_lit 0))) (@List.toArray (@Option @PySem.Value) []))
def o145_0 (P : Params) : Obj := (@PySem.Obj.mk (@PySem.Value.type "code") (@Option.none @Nat) (@PySem.Data.fields (@List.toArray @PySem.Value [(@PySem.Value.str (Str.ofString "_law_cell_at") (nat_lit 367)), (@PySem.Value.str (Str.ofString "_law_cell_at") (nat_lit 368)), (@PySem.Value.str (Str.ofString "/claim/cut.py") (nat_lit 369)), (@PySem.Value.int ((nat_lit 56) : Int) (nat_lit 0)), (@PySem.Value.int ((nat_lit 2) : Int) (nat_lit 0)), (@PySem.Value.int ((nat_lit 0) : Int) (nat_lit 0)), (@PySem.Value.int ((nat_lit 0) : Int) (nat_lit 0)), (@PySem.Value.int ((nat_lit 3) : Int) (nat_lit 0)), (.ref (nat_lit 140)), (@PySem.Value.bool true), (@PySem.Value.int ((nat_lit 181) : Int) (nat_lit 0)), (.ref (nat_lit 141)), Value.none, (.ref (nat_lit 142)), (.ref (nat_lit 143)), (.ref (nat_lit 144)), (@PySem.Value.int ((nat_lit 372) : Int) (nat_lit 0)), (@PySem.Value.int ((nat_lit 56) : Int) (nat_lit 0)), (@PySem.Value.str (Str.ofString "/claim/cut.py") (nat_lit 373))])) (@List.toArray (@Option @PySem.Value) []))
def o146_0 (P : Params) : Obj := (@PySem.Obj.mk (@PySem.Value.type "function") (@Option.none @Nat) (@PySem.Data.func (@PySem.FuncData.mk (Str.ofString "_law_cell_at") (Str.ofString "_law_cell_at") (fA TB 19) (@PySem.FuncBody.stmts (fB TB 19)) (fS TB 19) (nat_lit 3) [] Value.none Value.none Value.none (@PySem.Value.str (Str.ofString "law_uf050007_04") (nat_lit 365)) (@Option.none @Nat) (.ref (nat_lit 145)) Value.none (nat_lit 0))) (@List.toArray (@Option @PySem.Value) []))
def o147_0 (P : Params) : Obj := (@PySem.Obj.mk (@PySem.Value.type "tuple") (@Option.none @Nat) (@PySem.Data.seq (@List.toArray @PySem.Value []) (nat_lit 0)) (@List.toArray (@Option @PySem.Value) []))
def o148_0 (P : Params) : Obj := (@PySem.Obj.mk Value.none (@Option.none @Nat) (@PySem.Data.fields (@List.toArray @PySem.Value [])) (@List.toArray (@Option @PySem.Value) []))
def o149_0 (P : Params) : Obj := (@PySem.Obj.mk (@PySem.Value.type "tuple") (@Option.none @Nat) (@PySem.Data.seq (@List.toArray @PySem.Value [(@PySem.Value.str (Str.ofString "_law_k") (nat_lit 378))]) (nat_lit 0)) (@List.toArray (@Option @PySem.Value) []))
def o150_0 (P : Params) : Obj := (@PySem.Obj.mk (@PySem.Value.type "tuple") (@Option.none @Nat) (@PySem.Data.seq (@List.toArray @PySem.Value []) (nat_lit 0)) (@List.toArray (@Option @PySem.Value) []))
def o151_0 (P : Params) : Obj := (@PySem.Obj.mk Value.none (@Option.none @Nat) (@PySem.Data.func (@PySem.FuncData.mk (Str.ofString "_law_sign_by") (Str.ofString "_law_sign_by") (fA TB 20) (@PySem.FuncBody.stmts (fB TB 20)) (fS TB 20) (nat_lit 0) [] Value.none Value.none Value.none Value.none (@Option.none @Nat) Value.none Value.none (nat_lit 0))) (@List.toArray (@Option @PySem.Value) []))
def o152_0 (P : Params) : Obj := (@PySem.Obj.mk (@PySem.Value.type "code") (@Option.none @Nat) (@PySem.Data.fields (@List.toArray @PySem.Value [(@PySem.Value.str (Str.ofString "_law_sign_by") (nat_lit 375)), (@PySem.Value.str (Str.ofString "_law_sign_by") (nat_lit 376)), (@PySem.Value.str (Str.ofString "/claim/cut.py") (nat_lit 377)), (@PySem.Value.int ((nat_lit 60) : Int) (nat_lit 0)), (@PySem.Value.int ((nat_lit 1) : Int) (nat_lit 0)), (@PySem.Value.int ((nat_lit 0) : Int) (nat_lit 0)), (@PySem.Value.int ((nat_lit 0) : Int) (nat_lit 0)), (@PySem.Value.int ((nat_lit 3) : Int) (nat_lit 0)), (.ref (nat_lit 147)), (@PySem.Value.bool true), (@PySem.Value.int ((nat_lit 181) : Int) (nat_lit 0)), (.ref (nat_lit 148)), Value.none, (.ref (nat_lit 149)), (.ref (nat_lit 150)), (.ref (nat_lit 151)), (@PySem.Value.int ((nat_lit 379) : Int) (nat_lit 0)), (@PySem.Value.int ((nat_lit 60) : Int) (nat_lit 0)), (@PySem.Value.str (Str.ofString "/claim/cut.py") (nat_lit 380))])) (@List.toArray (@Option @PySem.Value) []))
def o153_0 (P : Params) : Obj := (@PySem.Obj.mk (@PySem.Value.type "function") (@Option.none @Nat) (@PySem.Data.func (@PySem.FuncData.mk (Str.ofString "_law_sign_by") (Str.ofString "_law_sign_by") (fA TB 20) (@PySem.FuncBody.stmts (fB TB 20)) (fS TB 20) (nat_lit 3) [] Value.none Value.none Value.none (@PySem.Value.str (Str.ofString "law_uf050007_04") (nat_lit 365)) (@Option.none @Nat) (.ref (nat_lit 152)) Value.none (nat_lit 0))) (@List.toArray (@Option @PySem.Value) []))
def o154_0 (P : Params) : Obj := (@PySem.Obj.mk (@PySem.Value.type "tuple") (@Option.none @Nat) (@PySem.Data.seq (@List.toArray @PySem.Value []) (nat_lit 0)) (@List.toArray (@Option @PySem.Value) []))
def o155_0 (P : Params) : Obj := (@PySem.Obj.mk Value.none (@Option.none @Nat) (@PySem.Data.fields (@List.toArray @PySem.Value [])) (@List.toArray (@Option @PySem.Value) []))
def o156_0 (P : Params) : Obj := (@PySem.Obj.mk Value.none (@Option.none @Nat) (@PySem.Data.func (@PySem.FuncData.mk (Str.ofString "_law_name_by") (Str.ofString "_law_name_by") (fA TB 21) (@PySem.FuncBody.stmts (fB TB 21)) (fS TB 21) (nat_lit 0) [] Value.none Value.none Value.none Value.none (@Option.none @Nat) Value.none Value.none (nat_lit 0))) (@List.toArray (@Option @PySem.Value) []))
def o157_0 (P : Params) : Obj := (@PySem.Obj.mk (@PySem.Value.type "code") (@Option.none @Nat) (@PySem.Data.fields (@List.toArray @PySem.Value [(@PySem.Value.str (Str.ofString "_law_name_by") (nat_lit 382)), (@PySem.Value.str (Str.ofString "_law_name_by") (nat_lit 383)), (@PySem.Value.str (Str.ofString "/claim/cut.py") (nat_lit 384)), (@PySem.Value.int ((nat_lit 62) : Int) (nat_lit 0)), (@PySem.Value.int ((nat_lit 2) : Int) (nat_lit 0)), (@PySem.Value.int ((nat_lit 0) : Int) (nat_lit 0)), (@PySem.Value.int ((nat_lit 0) : Int) (nat_lit 0)), (@PySem.Value.int ((nat_lit 3) : Int) (nat_lit 0)), (.ref (nat_lit 154)), (@PySem.Value.bool true), (@PySem.Value.int ((nat_lit 181) : Int) (nat_lit 0)), (.ref (nat_lit 155)), Value.none, Value.none, Value.none, (.ref (nat_lit 156)), (@PySem.Value.int ((nat_lit 385) : Int) (nat_lit 0)), (@PySem.Value.int ((nat_lit 62) : Int) (nat_lit 0)), (@PySem.Value.str (Str.ofString "/claim/cut.py") (nat_lit 386))])) (@List.toArray (@Option @PySem.Value) []))
def o158_0 (P : Params) : Obj := (@PySem.Obj.mk (@PySem.Value.type "function") (@Option.none @Nat) (@PySem.Data.func (@PySem.FuncData.mk (Str.ofString "_law_name_by") (Str.ofString "_law_name_by") (fA TB 21) (@PySem.FuncBody.stmts (fB TB 21)) (fS TB 21) (nat_lit 3) [] Value.none Value.none Value.none (@PySem.Value.str (Str.ofString "law_uf050007_04") (nat_lit 365)) (@Option.none @Nat) (.ref (nat_lit 157)) Value.none (nat_lit 0))) (@List.toArray (@Option @PySem.Value) []))
def o159_0 (P : Params) : Obj := (@PySem.Obj.mk (@PySem.Value.type "tuple") (@Option.none @Nat) (@PySem.Data.seq (@List.toArray @PySem.Value []) (nat_lit 0)) (@List.toArray (@Option @PySem.Value) []))
def o160_0 (P : Params) : Obj := (@PySem.Obj.mk Value.none (@Option.none @Nat) (@PySem.Data.fields (@List.toArray @PySem.Value [])) (@List.toArray (@Option @PySem.Value) []))
def o161_0 (P : Params) : Obj := (@PySem.Obj.mk Value.none (@Option.none @Nat) (@PySem.Data.func (@PySem.FuncData.mk (Str.ofString "_law_path_by") (Str.ofString "_law_path_by") (fA TB 22) (@PySem.FuncBody.stmts (fB TB 22)) (fS TB 22) (nat_lit 0) [] Value.none Value.none Value.none Value.none (@Option.none @Nat) Value.none Value.none (nat_lit 0))) (@List.toArray (@Option @PySem.Value) []))
def o162_0 (P : Params) : Obj := (@PySem.Obj.mk (@PySem.Value.type "code") (@Option.none @Nat) (@PySem.Data.fields (@List.toArray @PySem.Value [(@PySem.Value.str (Str.ofString "_law_path_by") (nat_lit 388)), (@PySem.Value.str (Str.ofString "_law_path_by") (nat_lit 389)), (@PySem.Value.str (Str.ofString "/claim/cut.py") (nat_lit 390)), (@PySem.Value.int ((nat_lit 76) : Int) (nat_lit 0)), (@PySem.Value.int ((nat_lit 2) : Int) (nat_lit 0)), (@PySem.Value.int ((nat_lit 0) : Int) (nat_lit 0)), (@PySem.Value.int ((nat_lit 0) : Int) (nat_lit 0)), (@PySem.Value.int ((nat_lit 3) : Int) (nat_lit 0)), (.ref (nat_lit 159)), (@PySem.Value.bool true), (@PySem.Value.int ((nat_lit 181) : Int) (nat_lit 0)), (.ref (nat_lit 160)), Value.none, Value.none, Value.none, (.ref (nat_lit 161)), (@PySem.Value.int ((nat_lit 391) : Int) (nat_lit 0)), (@PySem.Value.int ((nat_lit 76) : Int) (nat_lit 0)), (@PySem.Value.str (Str.ofString "/claim/cut.py") (nat_lit 392))])) (@List.toArray (@Option @PySem.Value) []))
def o163_0 (P : Params) : Obj := (@PySem.Obj.mk (@PySem.Value.type "function") (@Option.none @Nat) (@PySem.Data.func (@PySem.FuncData.mk (Str.ofString "_law_path_by") (Str.ofString "_law_path_by") (fA TB 22) (@PySem.FuncBody.stmts (fB TB 22)) (fS TB 22) (nat_lit 3) [] Value.none Value.none Value.none (@PySem.Value.str (Str.ofString "law_uf050007_04") (nat_lit 365)) (@Option.none @Nat) (.ref (nat_lit 162)) Value.none (nat_lit 0))) (@List.toArray (@Option @PySem.Value) []))
def o164_0 (P : Params) : Obj := (@PySem.Obj.mk (@PySem.Value.type "tuple") (@Option.none @Nat) (@PySem.Data.seq (@List.toArray @PySem.Value []) (nat_lit 0)) (@List.toArray (@Option @PySem.Value) []))
def o165_0 (P : Params) : Obj := (@PySem.Obj.mk Value.none (@Option.none @Nat) (@PySem.Data.fields (@List.toArray @PySem.Value [])) (@List.toArray (@Option @PySem.Value) []))
def o166_0 (P : Params) : Obj := (@PySem.Obj.mk Value.none (@Option.none @Nat) (@PySem.Data.func (@PySem.FuncData.mk (Str.ofString "_law_line_by") (Str.ofString "_law_line_by") (fA TB 23) (@PySem.FuncBody.stmts (fB TB 23)) (fS TB 23) (nat_lit 0) [] Value.none Value.none Value.none Value.none (@Option.none @Nat) Value.none Value.none (nat_lit 0))) (@List.toArray (@Option @PySem.Value) []))
def o167_0 (P : Params) : Obj := (@PySem.Obj.mk (@PySem.Value.type "code") (@Option.none @Nat) (@PySem.Data.fields (@List.toArray @PySem.Value [(@PySem.Value.str (Str.ofString "_law_line_by") (nat_lit 394)), (@PySem.Value.str (Str.ofString "_law_line_by") (nat_lit 395)), (@PySem.Value.str (Str.ofString "/claim/cut.py") (nat_lit 396)), (@PySem.Value.int ((nat_lit 85) : Int) (nat_lit 0)), (@PySem.Value.int ((nat_lit 2) : Int) (nat_lit 0)), (@PySem.Value.int ((nat_lit 0) : Int) (nat_lit 0)), (@PySem.Value.int ((nat_lit 0) : Int) (nat_lit 0)), (@PySem.Value.int ((nat_lit 3) : Int) (nat_lit 0)), (.ref (nat_lit 164)), (@PySem.Value.bool true), (@PySem.Value.int ((nat_lit 181) : Int) (nat_lit 0)), (.ref (nat_lit 165)), Value.none, Value.none, Value.none, (.ref (nat_lit 166)), (@PySem.Value.int ((nat_lit 397) : Int) (nat_lit 0)), (@PySem.Value.int ((nat_lit 85) : Int) (nat_lit 0)), (@PySem.Value.str (Str.ofString "/claim/cut.py") (nat_lit 398))])) (@List.toArray (@Option @PySem.Value) []))
def o168_0 (P : Params) : Obj := (@PySem.Obj.mk (@PySem.Value.type "function") (@Option.none @Nat) (@PySem.Data.func (@PySem.FuncData.mk (Str.ofString "_law_line_by") (Str.ofString "_law_line_by") (fA TB 23) (@PySem.FuncBody.stmts (fB TB 23)) (fS TB 23) (nat_lit 3) [] Value.none Value.none Value.none (@PySem.Value.str (Str.ofString "law_uf050007_04") (nat_lit 365)) (@Option.none @Nat) (.ref (nat_lit 167)) Value.none (nat_lit 0))) (@List.toArray (@Option @PySem.Value) []))
def o169_0 (P : Params) : Obj := (@PySem.Obj.mk (@PySem.Value.type "tuple") (@Option.none @Nat) (@PySem.Data.seq (@List.toArray @PySem.Value []) (nat_lit 0)) (@List.toArray (@Option @PySem.Value) []))
def o170_0 (P : Params) : Obj := (@PySem.Obj.mk Value.none (@Option.none @Nat) (@PySem.Data.fields (@List.toArray @PySem.Value [])) (@List.toArray (@Option @PySem.Value) []))
def o171_0 (P : Params) : Obj := (@PySem.Obj.mk (@PySem.Value.type "tuple") (@Option.none @Nat) (@PySem.Data.seq (@List.toArray @PySem.Value [(@PySem.Value.str (Str.ofString "_law_tree") (nat_lit 403)), (@PySem.Value.str (Str.ofString "_law_path") (nat_lit 404)), (@PySem.Value.str (Str.ofString "_law_other") (nat_lit 405))]) (nat_lit 0)) (@List.toArray (@Option @PySem.Value) []))
def o172_0 (P : Params) : Obj := (@PySem.Obj.mk (@PySem.Value.type "tuple") (@Option.none @Nat) (@PySem.Data.seq (@List.toArray @PySem.Value []) (nat_lit 0)) (@List.toArray (@Option @PySem.Value) []))
def o173_0 (P : Params) : Obj := (@PySem.Obj.mk Value.none (@Option.none @Nat) (@PySem.Data.func (@PySem.FuncData.mk (Str.ofString "_law_is_free") (Str.ofString "_law_is_free") (fA TB 24) (@PySem.FuncBody.stmts (fB TB 24)) (fS TB 24) (nat_lit 0) [] Value.none Value.none Value.none Value.none (@Option.none @Nat) Value.none Value.none (nat_lit 0))) (@List.toArray (@Option @PySem.Value) []))
def o174_0 (P : Params) : Obj := (@PySem.Obj.mk (@PySem.Value.type "code") (@Option.none @Nat) (@PySem.Data.fields (@List.toArray @PySem.Value [(@PySem.Value.str (Str.ofString "_law_is_free") (nat_lit 400)), (@PySem.Value.str (Str.ofString "_law_is_free") (nat_lit 401)), (@PySem.Value.str (Str.ofString "/claim/cut.py") (nat_lit 402)), (@PySem.Value.int ((nat_lit 92) : Int) (nat_lit 0)), (@PySem.Value.int ((nat_lit 2) : Int) (nat_lit 0)), (@PySem.Value.int ((nat_lit 0) : Int) (nat_lit 0)), (@PySem.Value.int ((nat_lit 0) : Int) (nat_lit 0)), (@PySem.Value.int ((nat_lit 3) : Int) (nat_lit 0)), (.ref (nat_lit 169)), (@PySem.Value.bool true), (@PySem.Value.int ((nat_lit 181) : Int) (nat_lit 0)), (.ref (nat_lit 170)), Value.none, (.ref (nat_lit 171)), (.ref (nat_lit 172)), (.ref (nat_lit 173)), (@PySem.Value.int ((nat_lit 406) : Int) (nat_lit 0)), (@PySem.Value.int ((nat_lit 92) : Int) (nat_lit 0)), (@PySem.Value.str (Str.ofString "/claim/cut.py") (nat_lit 407))])) (@List.toArray (@Option @PySem.Value) []))
def o175_0 (P : Params) : Obj := (@PySem.Obj.mk (@PySem.Value.type "function") (@Option.none @Nat) (@PySem.Data.func (@PySem.FuncData.mk (Str.ofString "_law_is_free") (Str.ofString "_law_is_free") (fA TB 24) (@PySem.FuncBody.stmts (fB TB 24)) (fS TB 24) (nat_lit 3) [] Value.none Value.none Value.none (@PySem.Value.str (Str.ofString "law_uf050007_04") (nat_lit 365)) (@Option.none @Nat) (.ref (nat_lit 174)) Value.none (nat_lit 0))) (@List.toArray (@Option @PySem.Value) []))
def o176_0 (P : Params) : Obj := (@PySem.Obj.mk (@PySem.Value.type "tuple") (@Option.none @Nat) (@PySem.Data.seq (@List.toArray @PySem.Value []) (nat_lit 0)) (@List.toArray (@Option @PySem.Value) []))
def o177_0 (P : Params) : Obj := (@PySem.Obj.mk Value.none (@Option.none @Nat) (@PySem.Data.fields (@List.toArray @PySem.Value [])) (@List.toArray (@Option @PySem.Value) []))
def o178_0 (P : Params) : Obj := (@PySem.Obj.mk (@PySem.Value.type "tuple") (@Option.none @Nat) (@PySem.Data.seq (@List.toArray @PySem.Value [(@PySem.Value.str (Str.ofString "_law_script") (nat_lit 412)), (@PySem.Value.str (Str.ofString "_law_shift") (nat_lit 413)), (@PySem.Value.str (Str.ofString "_law_tree") (nat_lit 414)), (@PySem.Value.str (Str.ofString "_law_k") (nat_lit 415)), (@PySem.Value.str (Str.ofString "_law_cell") (nat_lit 416)), (@PySem.Value.str (Str.ofString "_law_path") (nat_lit 417)), (@PySem.Value.str (Str.ofString "_law_more") (nat_lit 418)), (@PySem.Value.str (Str.ofString "_law_many") (nat_lit 419)), (@PySem.Value.str (Str.ofString "_law_j") (nat_lit 420))]) (nat_lit 0)) (@List.toArray (@Option @PySem.Value) []))
def o179_0 (P : Params) : Obj := (@PySem.Obj.mk (@PySem.Value.type "tuple") (@Option.none @Nat) (@PySem.Data.seq (@List.toArray @PySem.Value []) (nat_lit 0)) (@List.toArray (@Option @PySem.Value) []))
def o180_0 (P : Params) : Obj := (@PySem.Obj.mk Value.none (@Option.none @Nat) (@PySem.Data.func (@PySem.FuncData.mk (Str.ofString "_law_tree_by") (Str.ofString "_law_tree_by") (fA TB 25) (@PySem.FuncBody.stmts (fB TB 25)) (fS TB 25) (nat_lit 0) [] Value.none Value.none Value.none Value.none (@Option.none @Nat) Value.none Value.none (nat_lit 0))) (@List.toArray (@Option @PySem.Value) []))
def o181_0 (P : Params) : Obj := (@PySem.Obj.mk (@PySem.Value.type "code") (@Option.none @Nat) (@PySem.Data.fields (@List.toArray @PySem.Value [(@PySem.Value.str (Str.ofString "_law_tree_by") (nat_lit 409)), (@PySem.Value.str (Str.ofString "_law_tree_by") (nat_lit 410)), (@PySem.Value.str (Str.ofString "/claim/cut.py") (nat_lit 411)), (@PySem.Value.int ((nat_lit 97) : Int) (nat_lit 0)), (@PySem.Value.int ((nat_lit 2) : Int) (nat_lit 0)), (@PySem.Value.int ((nat_lit 0) : Int) (nat_lit 0)), (@PySem.Value.int ((nat_lit 0) : Int) (nat_lit 0)), (@PySem.Value.int ((nat_lit 3) : Int) (nat_lit 0)), (.ref (nat_lit 176)), (@PySem.Value.bool true), (@PySem.Value.int ((nat_lit 181) : Int) (nat_lit 0)), (.ref (nat_lit 177)), Value.none, (.ref (nat_lit 178)), (.ref (nat_lit 179)), (.ref (nat_lit 180)), (@PySem.Value.int ((nat_lit 421) : Int) (nat_lit 0)), (@PySem.Value.int ((nat_lit 97) : Int) (nat_lit 0)), (@PySem.Value.str (Str.ofString "/claim/cut.py") (nat_lit 422))])) (@List.toArray (@Option @PySem.Value) []))
def o182_0 (P : Params) : Obj := (@PySem.Obj.mk (@PySem.Value.type "function") (@Option.none @Nat) (@PySem.Data.func (@PySem.FuncData.mk (Str.ofString "_law_tree_by") (Str.ofString "_law_tree_by") (fA TB 25) (@PySem.FuncBody.stmts (fB TB 25)) (fS TB 25) (nat_lit 3) [] Value.none Value.none Value.none (@PySem.Value.str (Str.ofString "law_uf050007_04") (nat_lit 365)) (@Option.none @Nat) (.ref (nat_lit 181)) Value.none (nat_lit 0))) (@List.toArray (@Option @PySem.Value) []))
def o183_0 (P : Params) : Obj := (@PySem.Obj.mk (@PySem.Value.type "tuple") (@Option.none @Nat) (@PySem.Data.seq (@List.toArray @PySem.Value []) (nat_lit 0)) (@List.toArray (@Option @PySem.Value) []))
def o184_0 (P : Params) : Obj := (@PySem.Obj.mk Value.none (@Option.none @Nat) (@PySem.Data.fields (@List.toArray @PySem.Value [])) (@List.toArray (@Option @PySem.Value) []))
def o185_0 (P : Params) : Obj := (@PySem.Obj.mk Value.none (@Option.none @Nat) (@PySem.Data.func (@PySem.FuncData.mk (Str.ofString "_law_told") (Str.ofString "_law_told") (fA TB 26) (@PySem.FuncBody.stmts (fB TB 26)) (fS TB 26) (nat_lit 0) [] Value.none Value.none Value.none Value.none (@Option.none @Nat) Value.none Value.none (nat_lit 0))) (@List.toArray (@Option @PySem.Value) []))
def o186_0 (P : Params) : Obj := (@PySem.Obj.mk (@PySem.Value.type "code") (@Option.none @Nat) (@PySem.Data.fields (@List.toArray @PySem.Value [(@PySem.Value.str (Str.ofString "_law_told") (nat_lit 424)), (@PySem.Value.str (Str.ofString "_law_told") (nat_lit 425)), (@PySem.Value.str (Str.ofString "/claim/cut.py") (nat_lit 426)), (@PySem.Value.int ((nat_lit 114) : Int) (nat_lit 0)), (@PySem.Value.int ((nat_lit 2) : Int) (nat_lit 0)), (@PySem.Value.int ((nat_lit 0) : Int) (nat_lit 0)), (@PySem.Value.int ((nat_lit 0) : Int) (nat_lit 0)), (@PySem.Value.int ((nat_lit 3) : Int) (nat_lit 0)), (.ref (nat_lit 183)), (@PySem.Value.bool true), (@PySem.Value.int ((nat_lit 181) : Int) (nat_lit 0)), (.ref (nat_lit 184)), Value.none, Value.none, Value.none, (.ref (nat_lit 185)), (@PySem.Value.int ((nat_lit 427) : Int) (nat_lit 0)), (@PySem.Value.int ((nat_lit 114) : Int) (nat_lit 0)), (@PySem.Value.str (Str.ofString "/claim/cut.py") (nat_lit 428))])) (@List.toArray (@Option @PySem.Value) []))
def o187_0 (P : Params) : Obj := (@PySem.Obj.mk (@PySem.Value.type "function") (@Option.none @Nat) (@PySem.Data.func (@PySem.FuncData.mk (Str.ofString "_law_told") (Str.ofString "_law_told") (fA TB 26) (@PySem.FuncBody.stmts (fB TB 26)) (fS TB 26) (nat_lit 3) [] Value.none Value.none Value.none (@PySem.Value.str (Str.ofString "law_uf050007_04") (nat_lit 365)) (@Option.none @Nat) (.ref (nat_lit 186)) Value.none (nat_lit 0))) (@List.toArray (@Option @PySem.Value) []))
def o188_0 (P : Params) : Obj := (@PySem.Obj.mk (@PySem.Value.type "tuple") (@Option.none @Nat) (@PySem.Data.seq (@List.toArray @PySem.Value []) (nat_lit 0)) (@List.toArray (@Option @PySem.Value) []))
def o189_0 (P : Params) : Obj := (@PySem.Obj.mk Value.none (@Option.none @Nat) (@PySem.Data.fields (@List.toArray @PySem.Value [])) (@List.toArray (@Option @PySem.Value) []))
def o190_0 (P : Params) : Obj := (@PySem.Obj.mk (@PySem.Value.type "tuple") (@Option.none @Nat) (@PySem.Data.seq (@List.toArray @PySem.Value [(@PySem.Value.str (Str.ofString "_law_script") (nat_lit 433)), (@PySem.Value.str (Str.ofString "_law_shift") (nat_lit 434)), (@PySem.Value.str (Str.ofString "_law_tree") (nat_lit 435)), (@PySem.Value.str (Str.ofString "_law_odd") (nat_lit 436)), (@PySem.Value.str (Str.ofString "_law_path") (nat_lit 437)), (@PySem.Value.str (Str.ofString "_law_some") (nat_lit 438)), (@PySem.Value.str (Str.ofString "_law_many") (nat_lit 439))]) (nat_lit 0)) (@List.toArray (@Option @PySem.Value) []))
def o191_0 (P : Params) : Obj := (@PySem.Obj.mk (@PySem.Value.type "tuple") (@Option.none @Nat) (@PySem.Data.seq (@List.toArray @PySem.Value []) (nat_lit 0)) (@List.toArray (@Option @PySem.Value) []))
def o192_0 (P : Params) : Obj := (@PySem.Obj.mk Value.none (@Option.none @Nat) (@PySem.Data.func (@PySem.FuncData.mk (Str.ofString "_law_path_asked") (Str.ofString "_law_path_asked") (fA TB 27) (@PySem.FuncBody.stmts (fB TB 27)) (fS TB 27) (nat_lit 0) [] Value.none Value.none Value.none Value.none (@Option.none @Nat) Value.none Value.none (nat_lit 0))) (@List.toArray (@Option @PySem.Value) []))
def o193_0 (P : Params) : Obj := (@PySem.Obj.mk (@PySem.Value.type "code") (@Option.none @Nat) (@PySem.Data.fields (@List.toArray @PySem.Value [(@PySem.Value.str (Str.ofString "_law_path_asked") (nat_lit 430)), (@PySem.Value.str (Str.ofString "_law_path_asked") (nat_lit 431)), (@PySem.Value.str (Str.ofString "/claim/cut.py") (nat_lit 432)), (@PySem.Value.int ((nat_lit 123) : Int) (nat_lit 0)), (@PySem.Value.int ((nat_lit 3) : Int) (nat_lit 0)), (@PySem.Value.int ((nat_lit 0) : Int) (nat_lit 0)), (@PySem.Value.int ((nat_lit 0) : Int) (nat_lit 0)), (@PySem.Value.int ((nat_lit 3) : Int) (nat_lit 0)), (.ref (nat_lit 188)), (@PySem.Value.bool true), (@PySem.Value.int ((nat_lit 181) : Int) (nat_lit 0)), (.ref (nat_lit 189)), Value.none, (.ref (nat_lit 190)), (.ref (nat_lit 191)), (.ref (nat_lit 192)), (@PySem.Value.int ((nat_lit 440) : Int) (nat_lit 0)), (@PySem.Value.int ((nat_lit 123) : Int) (nat_lit 0)), (@PySem.Value.str (Str.ofString "/claim/cut.py") (nat_lit 441))])) (@List.toArray (@Option @PySem.Value) []))
def o194_0 (P : Params) : Obj := (@PySem.Obj.mk (@PySem.Value.type "function") (@Option.none @Nat) (@PySem.Data.func (@PySem.FuncData.mk (Str.ofString "_law_path_asked") (Str.ofString "_law_path_asked") (fA TB 27) (@PySem.FuncBody.stmts (fB TB 27)) (fS TB 27) (nat_lit 3) [] Value.none Value.none Value.none (@PySem.Value.str (Str.ofString "law_uf050007_04") (nat_lit 365)) (@Option.none @Nat) (.ref (nat_lit 193)) Value.none (nat_lit 0))) (@List.toArray (@Option @PySem.Value) []))
def tr_28 (P : Params) : PySem.W.BT := (.node (boot_o_0 P) (.node (boot_o_1 P) (.node (o3_4 P) (.node (boot_o_7 P) (.node (o15_0 P) (.node (o31_0 P) (.node (o63_0 P) (.node (o127_0 P) .nil .nil) (.node (o191_0 P) .nil .nil)) (.node (o95_0 P) (.node (o159_0 P) .nil .nil) .nil)) (.node (o47_0 P) (.node (o79_0 P) (.node (o143_0 P) .nil .nil) .nil) (.node (o111_0 P) (.node (o175_0 P) .nil .nil) .nil))) (.node (o23_0 P) (.node (o39_0 P) (.node (o71_0 P) (.node (o135_0 P) .nil .nil) .nil) (.node (o103_0 P) (.node (o167_0 P) .nil .nil) .nil)) (.node (o55_0 P) (.node (o87_0 P) (.node (o151_0 P) .nil .nil) .nil) (.node (o119_0 P) (.node (o183_0 P) .nil .nil) .nil)))) (.node (o11_0 P) (.node (o19_0 P) (.node (o35_0 P) (.node (o67_0 P) (.node (o131_0 P) .nil .nil) .nil) (.node (o99_0 P) (.node (o163_0 P) .nil .nil) .nil)) (.node (o51_0 P) (.node (o83_0 P) (.node (o147_0 P) .nil .nil) .nil) (.node (o115_0 P) (.node (o179_0 P) .nil .nil) .nil))) (.node (o27_0 P) (.node (o43_0 P) (.node (o75_0 P) (.node (o139_0 P) .nil .nil) .nil) (.node (o107_0 P) (.node (o171_0 P) .nil .nil) .nil)) (.node (o59_0 P) (.node (o91_0 P) (.node (o155_0 P) .nil .nil) .nil) (.node (o123_0 P) (.node (o187_0 P) .nil .nil) .nil))))) (.node (boot_o_5 P) (.node (boot_o_9 P) (.node (o17_0 P) (.node (o33_0 P) (.node (o65_0 P) (.node (o129_0 P) .nil .nil) (.node (o193_0 P) .nil .nil)) (.node (o97_0 P) (.node (o161_0 P) .nil .nil) .nil)) (.node (o49_0 P) (.node (o81_0 P) (.node (o145_0 P) .nil .nil) .nil) (.node (o113_0 P) (.node (o177_0 P) .nil .nil) .nil))) (.node (o25_0 P) (.node (o41_0 P) (.node (o73_0 P) (.node (o137_0 P) .nil .nil) .nil) (.node (o105_0 P) (.node (o169_0 P) .nil .nil) .nil)) (.node (o57_0 P) (.node (o89_0 P) (.node (o153_0 P) .nil .nil) .nil) (.node (o121_0 P) (.node (o185_0 P) .nil .nil) .nil)))) (.node (o13_0 P) (.node (o21_0 P) (.node (o37_0 P) (.node (o69_0 P) (.node (o133_0 P) .nil .nil) .nil) (.node (o101_0 P) (.node (o165_0 P) .nil .nil) .nil)) (.node (o53_0 P) (.node (o85_0 P) (.node (o149_0 P) .nil .nil) .nil) (.node (o117_0 P) (.node (o181_0 P) .nil .nil) .nil))) (.node (o29_0 P) (.node (o45_0 P) (.node (o77_0 P) (.node (o141_0 P) .nil .nil) .nil) (.node (o109_0 P) (.node (o173_0 P) .nil .nil) .nil)) (.node (o61_0 P) (.node (o93_0 P) (.node (o157_0 P) .nil .nil) .nil) (.node (o125_0 P) (.node (o189_0 P) .nil .nil) .nil)))))) (.node (boot_o_2 P) (.node (boot_o_4 P) (.node (boot_o_8 P) (.node (o16_0 P) (.node (o32_0 P) (.node (o64_0 P) (.node (o128_0 P) .nil .nil) (.node (o192_0 P) .nil .nil)) (.node (o96_0 P) (.node (o160_0 P) .nil .nil) .nil)) (.node (o48_0 P) (.node (o80_0 P) (.node (o144_0 P) .nil .nil) .nil) (.node (o112_0 P) (.node (o176_0 P) .nil .nil) .nil))) (.node (o24_3 P) (.node (o40_0 P) (.node (o72_0 P) (.node (o136_0 P) .nil .nil) .nil) (.node (o104_0 P) (.node (o168_0 P) .nil .nil) .nil)) (.node (o56_0 P) (.node (o88_0 P) (.node (o152_0 P) .nil .nil) .nil) (.node (o120_0 P) (.node (o184_0 P) .nil .nil) .nil)))) (.node (o12_5 P) (.node (o20_0 P) (.node (o36_0 P) (.node (o68_0 P) (.node (o132_0 P) .nil .nil) .nil) (.node (o100_0 P) (.node (o164_0 P) .nil .nil) .nil)) (.node (o52_0 P) (.node (o84_0 P) (.node (o148_0 P) .nil .nil) .nil) (.node (o116_0 P) (.node (o180_0 P) .nil .nil) .nil))) (.node (o28_0 P) (.node (o44_0 P) (.node (o76_0 P) (.node (o140_0 P) .nil .nil) .nil) (.node (o108_0 P) (.node (o172_0 P) .nil .nil) .nil)) (.node (o60_0 P) (.node (o92_0 P) (.node (o156_0 P) .nil .nil) .nil) (.node (o124_0 P) (.node (o188_0 P) .nil .nil) .nil))))) (.node (boot_o_6 P) (.node (boot_o_10 P) (.node (o18_0 P) (.node (o34_0 P) (.node (o66_0 P) (.node (o130_0 P) .nil .nil) (.node (o194_0 P) .nil .nil)) (.node (o98_0 P) (.node (o162_0 P) .nil .nil) .nil)) (.node (o50_0 P) (.node (o82_0 P) (.node (o146_0 P) .nil .nil) .nil) (.node (o114_0 P) (.node (o178_0 P) .nil .nil) .nil))) (.node (o26_0 P) (.node (o42_0 P) (.node (o74_0 P) (.node (o138_0 P) .nil .nil) .nil) (.node (o106_0 P) (.node (o170_0 P) .nil .nil) .nil)) (.node (o58_0 P) (.node (o90_0 P) (.node (o154_0 P) .nil .nil) .nil) (.node (o122_0 P) (.node (o186_0 P) .nil .nil) .nil)))) (.node (o14_0 P) (.node (o22_0 P) (.node (o38_0 P) (.node (o70_0 P) (.node (o134_0 P) .nil .nil) .nil) (.node (o102_0 P) (.node (o166_0 P) .nil .nil) .nil)) (.node (o54_0 P) (.node (o86_0 P) (.node (o150_0 P) .nil .nil) .nil) (.node (o118_0 P) (.node (o182_0 P) .nil .nil) .nil))) (.node (o30_0 P) (.node (o46_0 P) (.node (o78_0 P) (.node (o142_0 P) .nil .nil) .nil) (.node (o110_0 P) (.node (o174_0 P) .nil .nil) .nil)) (.node (o62_0 P) (.node (o94_0 P) (.node (o158_0 P) .nil .nil) .nil) (.node (o126_0 P) (.node (o190_0 P) .nil .nil) .nil)))))))
abbrev st_28 (w : World) (os : OsState) : SharedT := SharedT.mk (tr_28 w.params) (nat_lit 195) (@PySem.Life.mk [] [] [] (nat_lit 0) [] [] false (@List.toArray @Nat []) [] (nat_lit 0) false false false ((nat_lit 0) : Int) [((nat_lit 2000) : Int), ((nat_lit 10) : Int), ((nat_lit 10) : Int)] false (nat_lit 0) true [] [] (nat_lit 0) false) (@Array.mk GenState []) (@PySem.Drawn.mk (nat_lit 0) (nat_lit 0) (nat_lit 0) (nat_lit 0)) (nat_lit 443) os
def ss_28 : List Stmt := ((behindTheImports pw).drop 11).take 17
theorem q_28 : ∀ w : World, (fun os => segRunT treeTable pw w 11 ann 1 (nat_lit 427) (st_11 w os) (piecesOf ss_28 env cE (@PySem.Pos.mk (nat_lit 19) (nat_lit 0) (nat_lit 19) (nat_lit 5)) BB)) = fun os => some (Flow.next, st_28 w os, cE, (@PySem.Pos.mk (nat_lit 123) (nat_lit 0) (nat_lit 136) (nat_lit 20))) := fun w => by rw [segRunT_q, table_q]; kernel_rfl
def o3_5 (P : Params) : Obj := (@PySem.Obj.mk (@PySem.Value.type "dict") (@Option.none @Nat) (@PySem.Data.dict (@List.toArray @PySem.DictEntry [(@PySem.DictEntry.mk (@PySem.PyData.keyHash P (Str.ofString "__name__")) (@PySem.Value.str (Str.ofString "__name__") (nat_lit 165)) (@PySem.Value.str (Str.ofString "law_uf050007_04") (nat_lit 365))), (@PySem.DictEntry.mk (@PySem.PyData.keyHash P (Str.ofString "__doc__")) (@PySem.Value.str (Str.ofString "__doc__") (nat_lit 166)) Value.none), (@PySem.DictEntry.mk (@PySem.PyData.keyHash P (Str.ofString "__package__")) (@PySem.Value.str (Str.ofString "__package__") (nat_lit 167)) Value.none), (@PySem.DictEntry.mk (@PySem.PyData.keyHash P (Str.ofString "__loader__")) (@PySem.Value.str (Str.ofString "__loader__") (nat_lit 168)) (@PySem.Value.builtin "__main__.__loader__#opaque")), (@PySem.DictEntry.mk (@PySem.PyData.keyHash P (Str.ofString "__spec__")) (@PySem.Value.str (Str.ofString "__spec__") (nat_lit 169)) Value.none), (@PySem.DictEntry.mk (@PySem.PyData.keyHash P (Str.ofString "__annotations__")) (@PySem.Value.str (Str.ofString "__annotations__") (nat_lit 170)) (.ref (nat_lit 6))), (@PySem.DictEntry.mk (@PySem.PyData.keyHash P (Str.ofString "__builtins__")) (@PySem.Value.str (Str.ofString "__builtins__") (nat_lit 171)) (.ref (nat_lit 4))), (@PySem.DictEntry.mk (@PySem.PyData.keyHash P (Str.ofString "__file__")) (@PySem.Value.str (Str.ofString "__file__") (nat_lit 173)) (@PySem.Value.str (Str.ofString "/claim/cut.py") (nat_lit 172))), (@PySem.DictEntry.mk (@PySem.PyData.keyHash P (Str.ofString "__cached__")) (@PySem.Value.str (Str.ofString "__cached__") (nat_lit 174)) Value.none), (@PySem.DictEntry.mk (@PySem.PyData.keyHash P (Str.ofString "RoadError")) (@PySem.Value.str (Str.ofString "RoadError") (nat_lit 206)) (.ref (nat_lit 24))), (@PySem.DictEntry.mk (@PySem.PyData.keyHash P (Str.ofString "NoPath")) (@PySem.Value.str (Str.ofString "NoPath") (nat_lit 222)) (.ref (nat_lit 37))), (@PySem.DictEntry.mk (@PySem.PyData.keyHash P (Str.ofString "NoFile")) (@PySem.Value.str (Str.ofString "NoFile") (nat_lit 238)) (.ref (nat_lit 49))), (@PySem.DictEntry.mk (@PySem.PyData.keyHash P (Str.ofString "InTheWay")) (@PySem.Value.str (Str.ofString "InTheWay") (nat_lit 254)) (.ref (nat_lit 61))), (@PySem.DictEntry.mk (@PySem.PyData.keyHash P (Str.ofString "NoClash")) (@PySem.Value.str (Str.ofString "NoClash") (nat_lit 270)) (.ref (nat_lit 73))), (@PySem.DictEntry.mk (@PySem.PyData.keyHash P (Str.ofString "Clashed")) (@PySem.Value.str (Str.ofString "Clashed") (nat_lit 286)) (.ref (nat_lit 85))), (@PySem.DictEntry.mk (@PySem.PyData.keyHash P (Str.ofString "NoVersion")) (@PySem.Value.str (Str.ofString "NoVersion") (nat_lit 302)) (.ref (nat_lit 97))), (@PySem.DictEntry.mk (@PySem.PyData.keyHash P (Str.ofString "SameVersion")) (@PySem.Value.str (Str.ofString "SameVersion") (nat_lit 318)) (.ref (nat_lit 109))), (@PySem.DictEntry.mk (@PySem.PyData.keyHash P (Str.ofString "SIGNS")) (@PySem.Value.str (Str.ofString "SIGNS") (nat_lit 322)) (@PySem.Value.str (Str.ofString "abcdefghijklmnopqrstuvwxyzABCDEFGHIJKLMNOPQRSTUVWXYZ0123456789.-_") (nat_lit 321))), (@PySem.DictEntry.mk (@PySem.PyData.keyHash P (Str.ofString "MOST_PARTS")) (@PySem.Value.str (Str.ofString "MOST_PARTS") (nat_lit 324)) (@PySem.Value.int ((nat_lit 8) : Int) (nat_lit 323))), (@PySem.DictEntry.mk (@PySem.PyData.keyHash P (Str.ofString "LONGEST_PART")) (@PySem.Value.str (Str.ofString "LONGEST_PART") (nat_lit 326)) (@PySem.Value.int ((nat_lit 12) : Int) (nat_lit 325))), (@PySem.DictEntry.mk (@PySem.PyData.keyHash P (Str.ofString "is_part")) (@PySem.Value.str (Str.ofString "is_part") (nat_lit 334)) (.ref (nat_lit 118))), (@PySem.DictEntry.mk (@PySem.PyData.keyHash P (Str.ofString "is_path")) (@PySem.Value.str (Str.ofString "is_path") (nat_lit 343)) (.ref (nat_lit 125))), (@PySem.DictEntry.mk (@PySem.PyData.keyHash P (Str.ofString "is_beneath")) (@PySem.Value.str (Str.ofString "is_beneath") (nat_lit 351)) (.ref (nat_lit 132))), (@PySem.DictEntry.mk (@PySem.PyData.keyHash P (Str.ofString "done")) (@PySem.Value.str (Str.ofString "done") (nat_lit 364)) (.ref (nat_lit 139))), (@PySem.DictEntry.mk (@PySem.PyData.keyHash P (Str.ofString "_law_cell_at")) (@PySem.Value.str (Str.ofString "_law_cell_at") (nat_lit 374)) (.ref (nat_lit 146))), (@PySem.DictEntry.mk (@PySem.PyData.keyHash P (Str.ofString "_law_sign_by")) (@PySem.Value.str (Str.ofString "_law_sign_by") (nat_lit 381)) (.ref (nat_lit 153))), (@PySem.DictEntry.mk (@PySem.PyData.keyHash P (Str.ofString "_law_name_by")) (@PySem.Value.str (Str.ofString "_law_name_by") (nat_lit 387)) (.ref (nat_lit 158))), (@PySem.DictEntry.mk (@PySem.PyData.keyHash P (Str.ofString "_law_path_by")) (@PySem.Value.str (Str.ofString "_law_path_by") (nat_lit 393)) (.ref (nat_lit 163))), (@PySem.DictEntry.mk (@PySem.PyData.keyHash P (Str.ofString "_law_line_by")) (@PySem.Value.str (Str.ofString "_law_line_by") (nat_lit 399)) (.ref (nat_lit 168))), (@PySem.DictEntry.mk (@PySem.PyData.keyHash P (Str.ofString "_law_is_free")) (@PySem.Value.str (Str.ofString "_law_is_free") (nat_lit 408)) (.ref (nat_lit 175))), (@PySem.DictEntry.mk (@PySem.PyData.keyHash P (Str.ofString "_law_tree_by")) (@PySem.Value.str (Str.ofString "_law_tree_by") (nat_lit 423)) (.ref (nat_lit 182))), (@PySem.DictEntry.mk (@PySem.PyData.keyHash P (Str.ofString "_law_told")) (@PySem.Value.str (Str.ofString "_law_told") (nat_lit 429)) (.ref (nat_lit 187))), (@PySem.DictEntry.mk (@PySem.PyData.keyHash P (Str.ofString "_law_path_asked")) (@PySem.Value.str (Str.ofString "_law_path_asked") (nat_lit 442)) (.ref (nat_lit 194))), (@PySem.DictEntry.mk (@PySem.PyData.keyHash P (Str.ofString "law")) (@PySem.Value.str (Str.ofString "law") (nat_lit 459)) (.ref (nat_lit 201)))]) (nat_lit 34)) (@List.toArray (@Option @PySem.Value) []))
def o12_6 (P : Params) : Obj := (@PySem.Obj.mk Value.none (@Option.none @Nat) (@PySem.Data.fields (@List.toArray @PySem.Value [(@PySem.Value.int ((nat_lit 2) : Int) (nat_lit 0)), (@PySem.Value.int ((nat_lit 0) : Int) (nat_lit 0)), (.ref (nat_lit 20)), (@PySem.Value.int ((nat_lit 4) : Int) (nat_lit 0)), (@PySem.Value.int ((nat_lit 0) : Int) (nat_lit 0)), (.ref (nat_lit 33)), (@PySem.Value.int ((nat_lit 6) : Int) (nat_lit 0)), (@PySem.Value.int ((nat_lit 0) : Int) (nat_lit 0)), (.ref (nat_lit 45)), (@PySem.Value.int ((nat_lit 8) : Int) (nat_lit 0)), (@PySem.Value.int ((nat_lit 0) : Int) (nat_lit 0)), (.ref (nat_lit 57)), (@PySem.Value.int ((nat_lit 10) : Int) (nat_lit 0)), (@PySem.Value.int ((nat_lit 0) : Int) (nat_lit 0)), (.ref (nat_lit 69)), (@PySem.Value.int ((nat_lit 12) : Int) (nat_lit 0)), (@PySem.Value.int ((nat_lit 0) : Int) (nat_lit 0)), (.ref (nat_lit 81)), (@PySem.Value.int ((nat_lit 14) : Int) (nat_lit 0)), (@PySem.Value.int ((nat_lit 0) : Int) (nat_lit 0)), (.ref (nat_lit 93)), (@PySem.Value.int ((nat_lit 16) : Int) (nat_lit 0)), (@PySem.Value.int ((nat_lit 0) : Int) (nat_lit 0)), (.ref (nat_lit 105)), (@PySem.Value.int ((nat_lit 22) : Int) (nat_lit 0)), (@PySem.Value.int ((nat_lit 0) : Int) (nat_lit 0)), (.ref (nat_lit 117)), (@PySem.Value.int ((nat_lit 29) : Int) (nat_lit 0)), (@PySem.Value.int ((nat_lit 0) : Int) (nat_lit 0)), (.ref (nat_lit 124)), (@PySem.Value.int ((nat_lit 37) : Int) (nat_lit 0)), (@PySem.Value.int ((nat_lit 0) : Int) (nat_lit 0)), (.ref (nat_lit 131)), (@PySem.Value.int ((nat_lit 40) : Int) (nat_lit 0)), (@PySem.Value.int ((nat_lit 0) : Int) (nat_lit 0)), (.ref (nat_lit 138)), (@PySem.Value.int ((nat_lit 56) : Int) (nat_lit 0)), (@PySem.Value.int ((nat_lit 0) : Int) (nat_lit 0)), (.ref (nat_lit 145)), (@PySem.Value.int ((nat_lit 60) : Int) (nat_lit 0)), (@PySem.Value.int ((nat_lit 0) : Int) (nat_lit 0)), (.ref (nat_lit 152)), (@PySem.Value.int ((nat_lit 62) : Int) (nat_lit 0)), (@PySem.Value.int ((nat_lit 0) : Int) (nat_lit 0)), (.ref (nat_lit 157)), (@PySem.Value.int ((nat_lit 76) : Int) (nat_lit 0)), (@PySem.Value.int ((nat_lit 0) : Int) (nat_lit 0)), (.ref (nat_lit 162)), (@PySem.Value.int ((nat_lit 85) : Int) (nat_lit 0)), (@PySem.Value.int ((nat_lit 0) : Int) (nat_lit 0)), (.ref (nat_lit 167)), (@PySem.Value.int ((nat_lit 92) : Int) (nat_lit 0)), (@PySem.Value.int ((nat_lit 0) : Int) (nat_lit 0)), (.ref (nat_lit 174)), (@PySem.Value.int ((nat_lit 97) : Int) (nat_lit 0)), (@PySem.Value.int ((nat_lit 0) : Int) (nat_lit 0)), (.ref (nat_lit 181)), (@PySem.Value.int ((nat_lit 114) : Int) (nat_lit 0)), (@PySem.Value.int ((nat_lit 0) : Int) (nat_lit 0)), (.ref (nat_lit 186)), (@PySem.Value.int ((nat_lit 123) : Int) (nat_lit 0)), (@PySem.Value.int ((nat_lit 0) : Int) (nat_lit 0)), (.ref (nat_lit 193)), (@PySem.Value.int ((nat_lit 137) : Int) (nat_lit 0)), (@PySem.Value.int ((nat_lit 0) : Int) (nat_lit 0)), (.ref (nat_lit 200))])) (@List.toArray (@Option @PySem.Value) []))
def o195_0 (P : Params) : Obj := (@PySem.Obj.mk (@PySem.Value.type "tuple") (@Option.none @Nat) (@PySem.Data.seq (@List.toArray @PySem.Value []) (nat_lit 0)) (@List.toArray (@Option @PySem.Value) []))
def o196_0 (P : Params) : Obj := (@PySem.Obj.mk Value.none (@Option.none @Nat) (@PySem.Data.fields (@List.toArray @PySem.Value [])) (@List.toArray (@Option @PySem.Value) []))
def o197_0 (P : Params) : Obj := (@PySem.Obj.mk (@PySem.Value.type "tuple") (@Option.none @Nat) (@PySem.Data.seq (@List.toArray @PySem.Value [(@PySem.Value.str (Str.ofString "_law_script") (nat_lit 446)), (@PySem.Value.str (Str.ofString "_law_shift") (nat_lit 447)), (@PySem.Value.str (Str.ofString "_law_tree") (nat_lit 448)), (@PySem.Value.str (Str.ofString "_law_odd") (nat_lit 449)), (@PySem.Value.str (Str.ofString "_law_path") (nat_lit 450)), (@PySem.Value.str (Str.ofString "_law_line") (nat_lit 451)), (@PySem.Value.str (Str.ofString "_law_deed") (nat_lit 452)), (@PySem.Value.str (Str.ofString "_law_word") (nat_lit 453)), (@PySem.Value.str (Str.ofString "_law_due") (nat_lit 454)), (@PySem.Value.str (Str.ofString "_law_kept") (nat_lit 455)), (@PySem.Value.str (Str.ofString "_law_found") (nat_lit 456))]) (nat_lit 0)) (@List.toArray (@Option @PySem.Value) []))
def o198_0 (P : Params) : Obj := (@PySem.Obj.mk (@PySem.Value.type "tuple") (@Option.none @Nat) (@PySem.Data.seq (@List.toArray @PySem.Value []) (nat_lit 0)) (@List.toArray (@Option @PySem.Value) []))
def o199_0 (P : Params) : Obj := (@PySem.Obj.mk Value.none (@Option.none @Nat) (@PySem.Data.func (@PySem.FuncData.mk (Str.ofString "law") (Str.ofString "law") (fA TB 28) (@PySem.FuncBody.stmts (fB TB 28)) (fS TB 28) (nat_lit 0) [] Value.none Value.none Value.none Value.none (@Option.none @Nat) Value.none Value.none (nat_lit 0))) (@List.toArray (@Option @PySem.Value) []))
def o200_0 (P : Params) : Obj := (@PySem.Obj.mk (@PySem.Value.type "code") (@Option.none @Nat) (@PySem.Data.fields (@List.toArray @PySem.Value [(@PySem.Value.str (Str.ofString "law") (nat_lit 443)), (@PySem.Value.str (Str.ofString "law") (nat_lit 444)), (@PySem.Value.str (Str.ofString "/claim/cut.py") (nat_lit 445)), (@PySem.Value.int ((nat_lit 137) : Int) (nat_lit 0)), (@PySem.Value.int ((nat_lit 1) : Int) (nat_lit 0)), (@PySem.Value.int ((nat_lit 0) : Int) (nat_lit 0)), (@PySem.Value.int ((nat_lit 0) : Int) (nat_lit 0)), (@PySem.Value.int ((nat_lit 3) : Int) (nat_lit 0)), (.ref (nat_lit 195)), (@PySem.Value.bool true), (@PySem.Value.int ((nat_lit 181) : Int) (nat_lit 0)), (.ref (nat_lit 196)), Value.none, (.ref (nat_lit 197)), (.ref (nat_lit 198)), (.ref (nat_lit 199)), (@PySem.Value.int ((nat_lit 457) : Int) (nat_lit 0)), (@PySem.Value.int ((nat_lit 137) : Int) (nat_lit 0)), (@PySem.Value.str (Str.ofString "/claim/cut.py") (nat_lit 458))])) (@List.toArray (@Option @PySem.Value) []))
def o201_0 (P : Params) : Obj := (@PySem.Obj.mk (@PySem.Value.type "function") (@Option.none @Nat) (@PySem.Data.func (@PySem.FuncData.mk (Str.ofString "law") (Str.ofString "law") (fA TB 28) (@PySem.FuncBody.stmts (fB TB 28)) (fS TB 28) (nat_lit 3) [] Value.none Value.none Value.none (@PySem.Value.str (Str.ofString "law_uf050007_04") (nat_lit 365)) (@Option.none @Nat) (.ref (nat_lit 200)) Value.none (nat_lit 0))) (@List.toArray (@Option @PySem.Value) []))
def tr_29 (P : Params) : PySem.W.BT := (.node (boot_o_0 P) (.node (boot_o_1 P) (.node (o3_5 P) (.node (boot_o_7 P) (.node (o15_0 P) (.node (o31_0 P) (.node (o63_0 P) (.node (o127_0 P) .nil .nil) (.node (o191_0 P) .nil .nil)) (.node (o95_0 P) (.node (o159_0 P) .nil .nil) .nil)) (.node (o47_0 P) (.node (o79_0 P) (.node (o143_0 P) .nil .nil) .nil) (.node (o111_0 P) (.node (o175_0 P) .nil .nil) .nil))) (.node (o23_0 P) (.node (o39_0 P) (.node (o71_0 P) (.node (o135_0 P) .nil .nil) (.node (o199_0 P) .nil .nil)) (.node (o103_0 P) (.node (o167_0 P) .nil .nil) .nil)) (.node (o55_0 P) (.node (o87_0 P) (.node (o151_0 P) .nil .nil) .nil) (.node (o119_0 P) (.node (o183_0 P) .nil .nil) .nil)))) (.node (o11_0 P) (.node (o19_0 P) (.node (o35_0 P) (.node (o67_0 P) (.node (o131_0 P) .nil .nil) (.node (o195_0 P) .nil .nil)) (.node (o99_0 P) (.node (o163_0 P) .nil .nil) .nil)) (.node (o51_0 P) (.node (o83_0 P) (.node (o147_0 P) .nil .nil) .nil) (.node (o115_0 P) (.node (o179_0 P) .nil .nil) .nil))) (.node (o27_0 P) (.node (o43_0 P) (.node (o75_0 P) (.node (o139_0 P) .nil .nil) .nil) (.node (o107_0 P) (.node (o171_0 P) .nil .nil) .nil)) (.node (o59_0 P) (.node (o91_0 P) (.node (o155_0 P) .nil .nil) .nil) (.node (o123_0 P) (.node (o187_0 P) .nil .nil) .nil))))) (.node (boot_o_5 P) (.node (boot_o_9 P) (.node (o17_0 P) (.node (o33_0 P) (.node (o65_0 P) (.node (o129_0 P) .nil .nil) (.node (o193_0 P) .nil .nil)) (.node (o97_0 P) (.node (o161_0 P) .nil .nil) .nil)) (.node (o49_0 P) (.node (o81_0 P) (.node (o145_0 P) .nil .nil) .nil) (.node (o113_0 P) (.node (o177_0 P) .nil .nil) .nil))) (.node (o25_0 P) (.node (o41_0 P) (.node (o73_0 P) (.node (o137_0 P) .nil .nil) (.node (o201_0 P) .nil .nil)) (.node (o105_0 P) (.node (o169_0 P) .nil .nil) .nil)) (.node (o57_0 P) (.node (o89_0 P) (.node (o153_0 P) .nil .nil) .nil) (.node (o121_0 P) (.node (o185_0 P) .nil .nil) .nil)))) (.node (o13_0 P) (.node (o21_0 P) (.node (o37_0 P) (.node (o69_0 P) (.node (o133_0 P) .nil .nil) (.node (o197_0 P) .nil .nil)) (.node (o101_0 P) (.node (o165_0 P) .nil .nil) .nil)) (.node (o53_0 P) (.node (o85_0 P) (.node (o149_0 P) .nil .nil) .nil) (.node (o117_0 P) (.node (o181_0 P) .nil .nil) .nil))) (.node (o29_0 P) (.node (o45_0 P) (.node (o77_0 P) (.node (o141_0 P) .nil .nil) .nil) (.node (o109_0 P) (.node (o173_0 P) .nil .nil) .nil)) (.node (o61_0 P) (.node (o93_0 P) (.node (o157_0 P) .nil .nil) .nil) (.node (o125_0 P) (.node (o189_0 P) .nil .nil) .nil)))))) (.node (boot_o_2 P) (.node (boot_o_4 P) (.node (boot_o_8 P) (.node (o16_0 P) (.node (o32_0 P) (.node (o64_0 P) (.node (o128_0 P) .nil .nil) (.node (o192_0 P) .nil .nil)) (.node (o96_0 P) (.node (o160_0 P) .nil .nil) .nil)) (.node (o48_0 P) (.node (o80_0 P) (.node (o144_0 P) .nil .nil) .nil) (.node (o112_0 P) (.node (o176_0 P) .nil .nil) .nil))) (.node (o24_3 P) (.node (o40_0 P) (.node (o72_0 P) (.node (o136_0 P) .nil .nil) (.node (o200_0 P) .nil .nil)) (.node (o104_0 P) (.node (o168_0 P) .nil .nil) .nil)) (.node (o56_0 P) (.node (o88_0 P) (.node (o152_0 P) .nil .nil) .nil) (.node (o120_0 P) (.node (o184_0 P) .nil .nil) .nil)))) (.node (o12_6 P) (.node (o20_0 P) (.node (o36_0 P) (.node (o68_0 P) (.node (o132_0 P) .nil .nil) (.node (o196_0 P) .nil .nil)) (.node (o100_0 P) (.node (o164_0 P) .nil .nil) .nil)) (.node (o52_0 P) (.node (o84_0 P) (.node (o148_0 P) .nil .nil) .nil) (.node (o116_0 P) (.node (o180_0 P) .nil .nil) .nil))) (.node (o28_0 P) (.node (o44_0 P) (.node (o76_0 P) (.node (o140_0 P) .nil .nil) .nil) (.node (o108_0 P) (.node (o172_0 P) .nil .nil) .nil)) (.node (o60_0 P) (.node (o92_0 P) (.node (o156_0 P) .nil .nil) .nil) (.node (o124_0 P) (.node (o188_0 P) .nil .nil) .nil))))) (.node (boot_o_6 P) (.node (boot_o_10 P) (.node (o18_0 P) (.node (o34_0 P) (.node (o66_0 P) (.node (o130_0 P) .nil .nil) (.node (o194_0 P) .nil .nil)) (.node (o98_0 P) (.node (o162_0 P) .nil .nil) .nil)) (.node (o50_0 P) (.node (o82_0 P) (.node (o146_0 P) .nil .nil) .nil) (.node (o114_0 P) (.node (o178_0 P) .nil .nil) .nil))) (.node (o26_0 P) (.node (o42_0 P) (.node (o74_0 P) (.node (o138_0 P) .nil .nil) .nil) (.node (o106_0 P) (.node (o170_0 P) .nil .nil) .nil)) (.node (o58_0 P) (.node (o90_0 P) (.node (o154_0 P) .nil .nil) .nil) (.node (o122_0 P) (.node (o186_0 P) .nil .nil) .nil)))) (.node (o14_0 P) (.node (o22_0 P) (.node (o38_0 P) (.node (o70_0 P) (.node (o134_0 P) .nil .nil) (.node (o198_0 P) .nil .nil)) (.node (o102_0 P) (.node (o166_0 P) .nil .nil) .nil)) (.node (o54_0 P) (.node (o86_0 P) (.node (o150_0 P) .nil .nil) .nil) (.node (o118_0 P) (.node (o182_0 P) .nil .nil) .nil))) (.node (o30_0 P) (.node (o46_0 P) (.node (o78_0 P) (.node (o142_0 P) .nil .nil) .nil) (.node (o110_0 P) (.node (o174_0 P) .nil .nil) .nil)) (.node (o62_0 P) (.node (o94_0 P) (.node (o158_0 P) .nil .nil) .nil) (.node (o126_0 P) (.node (o190_0 P) .nil .nil) .nil)))))))
abbrev st_29 (w : World) (os : OsState) : SharedT := SharedT.mk (tr_29 w.params) (nat_lit 202) (@PySem.Life.mk [] [] [] (nat_lit 0) [] [] false (@List.toArray @Nat []) [] (nat_lit 0) false false false ((nat_lit 0) : Int) [((nat_lit 2000) : Int), ((nat_lit 10) : Int), ((nat_lit 10) : Int)] false (nat_lit 0) true [] [] (nat_lit 0) false) (@Array.mk GenState []) (@PySem.Drawn.mk (nat_lit 0) (nat_lit 0) (nat_lit 0) (nat_lit 0)) (nat_lit 460) os
def ss_29 : List Stmt := ((behindTheImports pw).drop 28).take 1
theorem q_29 : ∀ w : World, (fun os => segRunT treeTable pw w 11 ann 1 (nat_lit 40) (st_28 w os) (piecesOf ss_29 env cE (@PySem.Pos.mk (nat_lit 123) (nat_lit 0) (nat_lit 136) (nat_lit 20)) BB)) = fun os => some (Flow.next, st_29 w os, cE, (@PySem.Pos.mk (nat_lit 137) (nat_lit 0) (nat_lit 165) (nat_lit 33))) := fun w => by rw [segRunT_q, table_q]; kernel_rfl
def hp_f (P : Params) : Heap := Heap.mk (@Array.mk Obj [boot_o_0 P, boot_o_1 P, boot_o_2 P, o3_5 P, boot_o_4 P, boot_o_5 P, boot_o_6 P, boot_o_7 P, boot_o_8 P, boot_o_9 P, boot_o_10 P, o11_0 P, o12_6 P, o13_0 P, o14_0 P, o15_0 P, o16_0 P, o17_0 P, o18_0 P, o19_0 P, o20_0 P, o21_0 P, o22_0 P, o23_0 P, o24_3 P, o25_0 P, o26_0 P, o27_0 P, o28_0 P, o29_0 P, o30_0 P, o31_0 P, o32_0 P, o33_0 P, o34_0 P, o35_0 P, o36_0 P, o37_0 P, o38_0 P, o39_0 P, o40_0 P, o41_0 P, o42_0 P, o43_0 P, o44_0 P, o45_0 P, o46_0 P, o47_0 P, o48_0 P, o49_0 P, o50_0 P, o51_0 P, o52_0 P, o53_0 P, o54_0 P, o55_0 P, o56_0 P, o57_0 P, o58_0 P, o59_0 P, o60_0 P, o61_0 P, o62_0 P, o63_0 P, o64_0 P, o65_0 P, o66_0 P, o67_0 P, o68_0 P, o69_0 P, o70_0 P, o71_0 P, o72_0 P, o73_0 P, o74_0 P, o75_0 P, o76_0 P, o77_0 P, o78_0 P, o79_0 P, o80_0 P, o81_0 P, o82_0 P, o83_0 P, o84_0 P, o85_0 P, o86_0 P, o87_0 P, o88_0 P, o89_0 P, o90_0 P, o91_0 P, o92_0 P, o93_0 P, o94_0 P, o95_0 P, o96_0 P, o97_0 P, o98_0 P, o99_0 P, o100_0 P, o101_0 P, o102_0 P, o103_0 P, o104_0 P, o105_0 P, o106_0 P, o107_0 P, o108_0 P, o109_0 P, o110_0 P, o111_0 P, o112_0 P, o113_0 P, o114_0 P, o115_0 P, o116_0 P, o117_0 P, o118_0 P, o119_0 P, o120_0 P, o121_0 P, o122_0 P, o123_0 P, o124_0 P, o125_0 P, o126_0 P, o127_0 P, o128_0 P, o129_0 P, o130_0 P, o131_0 P, o132_0 P, o133_0 P, o134_0 P, o135_0 P, o136_0 P, o137_0 P, o138_0 P, o139_0 P, o140_0 P, o141_0 P, o142_0 P, o143_0 P, o144_0 P, o145_0 P, o146_0 P, o147_0 P, o148_0 P, o149_0 P, o150_0 P, o151_0 P, o152_0 P, o153_0 P, o154_0 P, o155_0 P, o156_0 P, o157_0 P, o158_0 P, o159_0 P, o160_0 P, o161_0 P, o162_0 P, o163_0 P, o164_0 P, o165_0 P, o166_0 P, o167_0 P, o168_0 P, o169_0 P, o170_0 P, o171_0 P, o172_0 P, o173_0 P, o174_0 P, o175_0 P, o176_0 P, o177_0 P, o178_0 P, o179_0 P, o180_0 P, o181_0 P, o182_0 P, o183_0 P, o184_0 P, o185_0 P, o186_0 P, o187_0 P, o188_0 P, o189_0 P, o190_0 P, o191_0 P, o192_0 P, o193_0 P, o194_0 P, o195_0 P, o196_0 P, o197_0 P, o198_0 P, o199_0 P, o200_0 P, o201_0 P]) (@PySem.Life.mk [] [] [] (nat_lit 0) [] [] false (@List.toArray @Nat []) [] (nat_lit 0) false false false ((nat_lit 0) : Int) [((nat_lit 2000) : Int), ((nat_lit 10) : Int), ((nat_lit 10) : Int)] false (nat_lit 0) true [] [] (nat_lit 0) false)
abbrev sl_f (w : World) (os : OsState) : Shared := Shared.mk (hp_f w.params) (@Array.mk GenState []) (@PySem.Drawn.mk (nat_lit 0) (nat_lit 0) (nat_lit 0) (nat_lit 0)) (nat_lit 460) os
theorem q_fin : ∀ w : World, (fun os => topRun treeTable pw w 11 ann (nat_lit 2) (st_29 w os).abs (Thread.mk (doneF .next) cE (@PySem.Pos.mk (nat_lit 137) (nat_lit 0) (nat_lit 165) (nat_lit 33)) BB)) = fun os => some (sl_f w os) := fun w => by rw [topRun_q, table_q]; kernel_rfl
theorem body_eq : behindTheImports pw = (ss_3 ++ (ss_5 ++ (ss_7 ++ (ss_11 ++ (ss_28 ++ (ss_29 ++ ([] : List Stmt))))))) := by kernel_rfl
theorem q_rest (w : World) (os : OsState) : topRun treeTable pw w 11 ann (Nat.add (nat_lit 409) (Nat.add (nat_lit 427) (Nat.add (nat_lit 427) (Nat.add (nat_lit 445) (Nat.add (nat_lit 427) (Nat.add (nat_lit 40) (nat_lit 2))))))) (st_b w os).abs (restOf (ss_3 ++ (ss_5 ++ (ss_7 ++ (ss_11 ++ (ss_28 ++ (ss_29 ++ ([] : List Stmt))))))) env cE (@PySem.Pos.mk (nat_lit 0) (nat_lit 0) (nat_lit 0) (nat_lit 0)) BB) = some (sl_f w os) :=
  (piece_app (tb := treeTable) (p := pw) (w := w) (n₀ := 11) (ann := ann) (env := env) (q := qq) (n := nat_lit 409) (N := (Nat.add (nat_lit 427) (Nat.add (nat_lit 427) (Nat.add (nat_lit 445) (Nat.add (nat_lit 427) (Nat.add (nat_lit 40) (nat_lit 2))))))) (s := (st_b w os).abs) (s' := (st_3 w os).abs) (r := sl_f w os) (l := ss_3) (rest := (ss_5 ++ (ss_7 ++ (ss_11 ++ (ss_28 ++ (ss_29 ++ ([] : List Stmt))))))) (c := cE) (pos := (@PySem.Pos.mk (nat_lit 0) (nat_lit 0) (nat_lit 0) (nat_lit 0))) (p' := (@PySem.Pos.mk (nat_lit 4) (nat_lit 0) (nat_lit 5) (nat_lit 8))) (segRun_of (congrFun (q_3 w) os))
    (piece_app (tb := treeTable) (p := pw) (w := w) (n₀ := 11) (ann := ann) (env := env) (q := qq) (n := nat_lit 427) (N := (Nat.add (nat_lit 427) (Nat.add (nat_lit 445) (Nat.add (nat_lit 427) (Nat.add (nat_lit 40) (nat_lit 2)))))) (s := (st_3 w os).abs) (s' := (st_5 w os).abs) (r := sl_f w os) (l := ss_5) (rest := (ss_7 ++ (ss_11 ++ (ss_28 ++ (ss_29 ++ ([] : List Stmt)))))) (c := cE) (pos := (@PySem.Pos.mk (nat_lit 4) (nat_lit 0) (nat_lit 5) (nat_lit 8))) (p' := (@PySem.Pos.mk (nat_lit 8) (nat_lit 0) (nat_lit 9) (nat_lit 8))) (segRun_of (congrFun (q_5 w) os))
    (piece_app (tb := treeTable) (p := pw) (w := w) (n₀ := 11) (ann := ann) (env := env) (q := qq) (n := nat_lit 427) (N := (Nat.add (nat_lit 445) (Nat.add (nat_lit 427) (Nat.add (nat_lit 40) (nat_lit 2))))) (s := (st_5 w os).abs) (s' := (st_7 w os).abs) (r := sl_f w os) (l := ss_7) (rest := (ss_11 ++ (ss_28 ++ (ss_29 ++ ([] : List Stmt))))) (c := cE) (pos := (@PySem.Pos.mk (nat_lit 8) (nat_lit 0) (nat_lit 9) (nat_lit 8))) (p' := (@PySem.Pos.mk (nat_lit 12) (nat_lit 0) (nat_lit 13) (nat_lit 8))) (segRun_of (congrFun (q_7 w) os))
    (piece_app (tb := treeTable) (p := pw) (w := w) (n₀ := 11) (ann := ann) (env := env) (q := qq) (n := nat_lit 445) (N := (Nat.add (nat_lit 427) (Nat.add (nat_lit 40) (nat_lit 2)))) (s := (st_7 w os).abs) (s' := (st_11 w os).abs) (r := sl_f w os) (l := ss_11) (rest := (ss_28 ++ (ss_29 ++ ([] : List Stmt)))) (c := cE) (pos := (@PySem.Pos.mk (nat_lit 12) (nat_lit 0) (nat_lit 13) (nat_lit 8))) (p' := (@PySem.Pos.mk (nat_lit 19) (nat_lit 0) (nat_lit 19) (nat_lit 5))) (segRun_of (congrFun (q_11 w) os))
    (piece_app (tb := treeTable) (p := pw) (w := w) (n₀ := 11) (ann := ann) (env := env) (q := qq) (n := nat_lit 427) (N := (Nat.add (nat_lit 40) (nat_lit 2))) (s := (st_11 w os).abs) (s' := (st_28 w os).abs) (r := sl_f w os) (l := ss_28) (rest := (ss_29 ++ ([] : List Stmt))) (c := cE) (pos := (@PySem.Pos.mk (nat_lit 19) (nat_lit 0) (nat_lit 19) (nat_lit 5))) (p' := (@PySem.Pos.mk (nat_lit 123) (nat_lit 0) (nat_lit 136) (nat_lit 20))) (segRun_of (congrFun (q_28 w) os))
    (piece_app (tb := treeTable) (p := pw) (w := w) (n₀ := 11) (ann := ann) (env := env) (q := qq) (n := nat_lit 40) (N := (nat_lit 2)) (s := (st_28 w os).abs) (s' := (st_29 w os).abs) (r := sl_f w os) (l := ss_29) (rest := ([] : List Stmt)) (c := cE) (pos := (@PySem.Pos.mk (nat_lit 123) (nat_lit 0) (nat_lit 136) (nat_lit 20))) (p' := (@PySem.Pos.mk (nat_lit 137) (nat_lit 0) (nat_lit 165) (nat_lit 33))) (segRun_of (congrFun (q_29 w) os))
    (congrFun (q_fin w) os)))))))
theorem q_run (w : World) (os : OsState) : topRun treeTable pw w 11 ann (Nat.add (nat_lit 12) (Nat.add (nat_lit 1) (Nat.add (nat_lit 409) (Nat.add (nat_lit 427) (Nat.add (nat_lit 427) (Nat.add (nat_lit 445) (Nat.add (nat_lit 427) (Nat.add (nat_lit 40) (nat_lit 2))))))))) (s0 w os) (topStub pw) = some (sl_f w os) :=
  go_top (congrFun (q_pre w) os) (piece_block (congrFun (q_block w) os) (by rw [show restOf (behindTheImports pw) env cE (@PySem.Pos.mk (nat_lit 0) (nat_lit 0) (nat_lit 0) (nat_lit 0)) BB = restOf (ss_3 ++ (ss_5 ++ (ss_7 ++ (ss_11 ++ (ss_28 ++ (ss_29 ++ ([] : List Stmt))))))) env cE (@PySem.Pos.mk (nat_lit 0) (nat_lit 0) (nat_lit 0) (nat_lit 0)) BB from congrArg (fun b => restOf b env cE (@PySem.Pos.mk (nat_lit 0) (nat_lit 0) (nat_lit 0) (nat_lit 0)) BB) body_eq]; exact q_rest w os))
theorem q_le : Nat.ble (Nat.add (nat_lit 12) (Nat.add (nat_lit 1) (Nat.add (nat_lit 409) (Nat.add (nat_lit 427) (Nat.add (nat_lit 427) (Nat.add (nat_lit 445) (Nat.add (nat_lit 427) (Nat.add (nat_lit 40) (nat_lit 2))))))))) (nat_lit 4464) = true := by kernel_rfl
theorem q_open : ∀ w : World, (fencedOpening treeTable pw w (nat_lit 4464)).map (fun s => (s.heap, s.gens, s.drawn, s.toks)) = some (boot_heap w.params, (@Array.mk GenState []), boot_drawn, boot_toks) := boot_open (by kernel_rfl) (by kernel_rfl) (fun _ => by kernel_rfl)
theorem q_size : ∀ w : World, ((boot_heap w.params).isNs mainGlobals && ((@Array.mk GenState [])).size == 0, (boot_heap w.params).objs.size, (boot_heap w.params).nsMap mainGlobals "__annotations__") = (true, 11, ann) := fun w => by kernel_rfl
def kk (P : Params) : Frag := [(nat_lit 0, boot_o_0 P), (nat_lit 1, boot_o_1 P), (nat_lit 2, boot_o_2 P), (nat_lit 3, o3_5 P), (nat_lit 4, boot_o_4 P), (nat_lit 5, boot_o_5 P), (nat_lit 6, boot_o_6 P), (nat_lit 7, boot_o_7 P), (nat_lit 9, boot_o_9 P), (nat_lit 10, boot_o_10 P), (nat_lit 11, o11_0 P), (nat_lit 13, o13_0 P), (nat_lit 14, o14_0 P), (nat_lit 15, o15_0 P), (nat_lit 16, o16_0 P), (nat_lit 17, o17_0 P), (nat_lit 18, o18_0 P), (nat_lit 20, o20_0 P), (nat_lit 21, o21_0 P), (nat_lit 22, o22_0 P), (nat_lit 23, o23_0 P), (nat_lit 24, o24_3 P), (nat_lit 25, o25_0 P), (nat_lit 26, o26_0 P), (nat_lit 27, o27_0 P), (nat_lit 28, o28_0 P), (nat_lit 29, o29_0 P), (nat_lit 30, o30_0 P), (nat_lit 31, o31_0 P), (nat_lit 33, o33_0 P), (nat_lit 34, o34_0 P), (nat_lit 35, o35_0 P), (nat_lit 36, o36_0 P), (nat_lit 37, o37_0 P), (nat_lit 38, o38_0 P), (nat_lit 39, o39_0 P), (nat_lit 40, o40_0 P), (nat_lit 41, o41_0 P), (nat_lit 42, o42_0 P), (nat_lit 43, o43_0 P), (nat_lit 45, o45_0 P), (nat_lit 46, o46_0 P), (nat_lit 47, o47_0 P), (nat_lit 48, o48_0 P), (nat_lit 49, o49_0 P), (nat_lit 50, o50_0 P), (nat_lit 51, o51_0 P), (nat_lit 52, o52_0 P), (nat_lit 53, o53_0 P), (nat_lit 54, o54_0 P), (nat_lit 55, o55_0 P), (nat_lit 57, o57_0 P), (nat_lit 58, o58_0 P), (nat_lit 59, o59_0 P), (nat_lit 60, o60_0 P), (nat_lit 61, o61_0 P), (nat_lit 62, o62_0 P), (nat_lit 63, o63_0 P), (nat_lit 64, o64_0 P), (nat_lit 65, o65_0 P), (nat_lit 66, o66_0 P), (nat_lit 67, o67_0 P), (nat_lit 69, o69_0 P), (nat_lit 70, o70_0 P), (nat_lit 71, o71_0 P), (nat_lit 72, o72_0 P), (nat_lit 73, o73_0 P), (nat_lit 74, o74_0 P), (nat_lit 75, o75_0 P), (nat_lit 76, o76_0 P), (nat_lit 77, o77_0 P), (nat_lit 78, o78_0 P), (nat_lit 79, o79_0 P), (nat_lit 81, o81_0 P), (nat_lit 82, o82_0 P), (nat_lit 83, o83_0 P), (nat_lit 84, o84_0 P), (nat_lit 85, o85_0 P), (nat_lit 86, o86_0 P), (nat_lit 87, o87_0 P), (nat_lit 88, o88_0 P), (nat_lit 89, o89_0 P), (nat_lit 90, o90_0 P), (nat_lit 91, o91_0 P), (nat_lit 93, o93_0 P), (nat_lit 94, o94_0 P), (nat_lit 95, o95_0 P), (nat_lit 96, o96_0 P), (nat_lit 97, o97_0 P), (nat_lit 98, o98_0 P), (nat_lit 99, o99_0 P), (nat_lit 100, o100_0 P), (nat_lit 101, o101_0 P), (nat_lit 102, o102_0 P), (nat_lit 103, o103_0 P), (nat_lit 105, o105_0 P), (nat_lit 106, o106_0 P), (nat_lit 107, o107_0 P), (nat_lit 108, o108_0 P), (nat_lit 109, o109_0 P), (nat_lit 110, o110_0 P), (nat_lit 111, o111_0 P), (nat_lit 112, o112_0 P), (nat_lit 114, o114_0 P), (nat_lit 115, o115_0 P), (nat_lit 117, o117_0 P), (nat_lit 118, o118_0 P), (nat_lit 119, o119_0 P), (nat_lit 121, o121_0 P), (nat_lit 122, o122_0 P), (nat_lit 124, o124_0 P), (nat_lit 125, o125_0 P), (nat_lit 126, o126_0 P), (nat_lit 128, o128_0 P), (nat_lit 129, o129_0 P), (nat_lit 131, o131_0 P), (nat_lit 132, o132_0 P), (nat_lit 133, o133_0 P), (nat_lit 135, o135_0 P), (nat_lit 136, o136_0 P), (nat_lit 138, o138_0 P), (nat_lit 139, o139_0 P), (nat_lit 140, o140_0 P), (nat_lit 142, o142_0 P), (nat_lit 143, o143_0 P), (nat_lit 145, o145_0 P), (nat_lit 146, o146_0 P), (nat_lit 147, o147_0 P), (nat_lit 149, o149_0 P), (nat_lit 150, o150_0 P), (nat_lit 152, o152_0 P), (nat_lit 153, o153_0 P), (nat_lit 154, o154_0 P), (nat_lit 157, o157_0 P), (nat_lit 158, o158_0 P), (nat_lit 159, o159_0 P), (nat_lit 162, o162_0 P), (nat_lit 163, o163_0 P), (nat_lit 164, o164_0 P), (nat_lit 167, o167_0 P), (nat_lit 168, o168_0 P), (nat_lit 169, o169_0 P), (nat_lit 171, o171_0 P), (nat_lit 172, o172_0 P), (nat_lit 174, o174_0 P), (nat_lit 175, o175_0 P), (nat_lit 176, o176_0 P), (nat_lit 178, o178_0 P), (nat_lit 179, o179_0 P), (nat_lit 181, o181_0 P), (nat_lit 182, o182_0 P), (nat_lit 183, o183_0 P), (nat_lit 186, o186_0 P), (nat_lit 187, o187_0 P), (nat_lit 188, o188_0 P), (nat_lit 190, o190_0 P), (nat_lit 191, o191_0 P), (nat_lit 193, o193_0 P), (nat_lit 194, o194_0 P), (nat_lit 195, o195_0 P), (nat_lit 197, o197_0 P), (nat_lit 198, o198_0 P), (nat_lit 200, o200_0 P), (nat_lit 201, o201_0 P)]
def ks : List Addr := [nat_lit 0, nat_lit 1, nat_lit 2, nat_lit 3, nat_lit 4, nat_lit 5, nat_lit 6, nat_lit 7, nat_lit 9, nat_lit 10, nat_lit 11, nat_lit 13, nat_lit 14, nat_lit 15, nat_lit 16, nat_lit 17, nat_lit 18, nat_lit 20, nat_lit 21, nat_lit 22, nat_lit 23, nat_lit 24, nat_lit 25, nat_lit 26, nat_lit 27, nat_lit 28, nat_lit 29, nat_lit 30, nat_lit 31, nat_lit 33, nat_lit 34, nat_lit 35, nat_lit 36, nat_lit 37, nat_lit 38, nat_lit 39, nat_lit 40, nat_lit 41, nat_lit 42, nat_lit 43, nat_lit 45, nat_lit 46, nat_lit 47, nat_lit 48, nat_lit 49, nat_lit 50, nat_lit 51, nat_lit 52, nat_lit 53, nat_lit 54, nat_lit 55, nat_lit 57, nat_lit 58, nat_lit 59, nat_lit 60, nat_lit 61, nat_lit 62, nat_lit 63, nat_lit 64, nat_lit 65, nat_lit 66, nat_lit 67, nat_lit 69, nat_lit 70, nat_lit 71, nat_lit 72, nat_lit 73, nat_lit 74, nat_lit 75, nat_lit 76, nat_lit 77, nat_lit 78, nat_lit 79, nat_lit 81, nat_lit 82, nat_lit 83, nat_lit 84, nat_lit 85, nat_lit 86, nat_lit 87, nat_lit 88, nat_lit 89, nat_lit 90, nat_lit 91, nat_lit 93, nat_lit 94, nat_lit 95, nat_lit 96, nat_lit 97, nat_lit 98, nat_lit 99, nat_lit 100, nat_lit 101, nat_lit 102, nat_lit 103, nat_lit 105, nat_lit 106, nat_lit 107, nat_lit 108, nat_lit 109, nat_lit 110, nat_lit 111, nat_lit 112, nat_lit 114, nat_lit 115, nat_lit 117, nat_lit 118, nat_lit 119, nat_lit 121, nat_lit 122, nat_lit 124, nat_lit 125, nat_lit 126, nat_lit 128, nat_lit 129, nat_lit 131, nat_lit 132, nat_lit 133, nat_lit 135, nat_lit 136, nat_lit 138, nat_lit 139, nat_lit 140, nat_lit 142, nat_lit 143, nat_lit 145, nat_lit 146, nat_lit 147, nat_lit 149, nat_lit 150, nat_lit 152, nat_lit 153, nat_lit 154, nat_lit 157, nat_lit 158, nat_lit 159, nat_lit 162, nat_lit 163, nat_lit 164, nat_lit 167, nat_lit 168, nat_lit 169, nat_lit 171, nat_lit 172, nat_lit 174, nat_lit 175, nat_lit 176, nat_lit 178, nat_lit 179, nat_lit 181, nat_lit 182, nat_lit 183, nat_lit 186, nat_lit 187, nat_lit 188, nat_lit 190, nat_lit 191, nat_lit 193, nat_lit 194, nat_lit 195, nat_lit 197, nat_lit 198, nat_lit 200, nat_lit 201]
abbrev NN : Nat := nat_lit 4464
theorem openSeen_q : @openSeen = @PySem.W.Fast.tw4187177175401517315 := PySem.W.Fast.te4187177175401517315
theorem imods_q : importedModules = PySem.W.Fast.tw5923862056798008813 := PySem.W.Fast.te5923862056798008813
abbrev rw : OpenLaw := PySem.Challenge.rw_uf050007_04
abbrev Xt : Shared → Bool := fun s => xlAt vw [] s && recOk (RowW.records (OpenRow.toRowW rw.row)) s
abbrev HK : Hook := kHook kk ks (fun _ => by kernel_rfl)
theorem l_1 : ∀ w : World, (fun os => (staticsOk (importedModules pw.main.body) (boot_heap w.params) (hp_f w.params) && namesBound pw (hp_f w.params) && gensDone (sl_f w os) && laidKept (boot_heap w.params) (hp_f w.params))) = fun _ : OsState => true := fun w => by rw [imods_q]; kernel_rfl
theorem l_2 : ∀ w : World, (fun os => openSeen vw [] (importedModules pw.main.body) Xt true (sl_f w os)) = fun _ : OsState => openGood vw [] := fun w => by rw [imods_q, openSeen_q]; kernel_rfl
theorem l_3 : ∀ w : World, (fun os => HK.obs (sl_f w os)) = fun _ : OsState => HK.val w := fun w => by kernel_rfl
theorem left : LeftO pw vw [] Xt HK.obs HK.val NN :=
  LeftO.of_pieces (p := pw) (q := vw) (loose := []) (Xt := Xt) (Yf := HK.obs) (Ya := HK.val) (N := NN) (g0 := true) (H₀ := boot_heap) (H₁ := hp_f) q_open q_size q_run q_le
    fun w => funext fun os => looks_pair (congrFun (l_1 w) os) (looks_pair (congrFun (l_2 w) os) (congrFun (l_3 w) os))
theorem said : rw.wellSaid = true := by
  unfold OpenLaw.wellSaid OpenRow.wellSaid OpenRow.partSaid looksOpen
  repeat' (with_reducible refine look_both ?_ ?_)
  all_goals decide +kernel
theorem hd {d : DefRec} {kwd : List (Str × Expr)} (hdef : defOf vw rw.row.name = some (d, kwd)) (hp : rw.row.prog.theDef rw.row.name = some (d.params, d.body, d.scope)) (hk : kwWritten? d.params.kwonlyargs d.params.kw_defaults = some kwd)
    (call : WalkO vw [] (XL vw []) HK.says rw.row.toRowW d kwd fun f vs => PySem.call f vs) : rw.Holds :=
  holds_law said fun said' =>
    holds_open (q := vw) (loose := []) (Xt := Xt) (XP := XL vw []) (Yf := HK.obs) (Ya := HK.val) (YP := HK.says) (N := NN) left HK.of HK.keeps (fun s e => xl_of s (Bool.and_eq_true_iff.mp e).1) XL.keeps hdef hp hk
      (fun s e => recFacts_of (Bool.and_eq_true_iff.mp e).2) (by rfl) said' (by decide +kernel) ⟨rfl, rfl, rfl, rfl, rfl, by decide +kernel⟩ (by w_witness2) call
end
end Hd
end Mine

end
noncomputable section
set_option autoImplicit false
namespace Mine
open PySem

/-- abstract values: tuples by value, mutable things by address -/
inductive V where
  | none
  | bool (b : Bool)
  | int (i : Int)
  | str (s : Str)
  | ref (a : Addr)
  | script
  | ty (n : String)
  | tup (vs : List V)

/-- abstract mutable objects -/
inductive AObj where
  | list (xs : List V)
  | dict (kvs : List (Str × V)) (ep : Nat)
  | idict (kvs : List (Int × V)) (ep : Nat)

abbrev View := Addr → Option AObj
abbrev Loc := String → Option V
def upd (σ : View) (a : Addr) (o : AObj) : View := fun b => if b = a then some o else σ b
def put (m : Loc) (x : String) (v : V) : Loc := fun y => if y = x then some v else m y
@[simp] theorem upd_same (σ : View) (a : Addr) (o : AObj) : upd σ a o a = some o := by simp [upd]
theorem upd_ne {σ : View} {a b : Addr} {o : AObj} (h : b ≠ a) : upd σ a o b = σ b := by simp [upd, h]
theorem upd_old {σ : View} {a b : Addr} {o o' : AObj} (ha : σ a = none) (hb : σ b = some o') : upd σ a o b = some o' := by
  rw [upd_ne (by rintro rfl; rw [ha] at hb; cases hb), hb]
@[simp] theorem put_same (m : Loc) (x : String) (v : V) : put m x v x = some v := by simp [put]
theorem put_ne {m : Loc} {x y : String} {v : V} (h : y ≠ x) : put m x v y = m y := by simp [put, h]

/-- what is fixed for the whole call -/
structure Cx where
  prog : Program
  w : World
  s₁ : Shared
  aS : Addr
  ns : List Int
  mg : Str → Option Value
  mb : Str → Option Value
  held : Option Addr := none
abbrev Cx.hB (C : Cx) : Heap := C.s₁.heap
structure Cx.Ok (C : Cx) : Prop where
  g : C.hB.Ns mainGlobals C.mg
  b : C.hB.Ns builtinsNs C.mb
  nolimit : C.hB.NoLimit
  mods : ∃ o, C.hB.get? sysModules = some o
  few : C.ns.length ≤ 63
  heldOk : ∀ e, C.held = some e → ∃ o vs, C.hB.get? e = some o ∧ o.data = .fields vs ∧ vs[2]? = some .none
  script : ∃ ws, C.hB.IsList C.aS ws ∧ ws.toList.length = C.ns.length ∧ ∀ (i : Nat) n, C.ns[i]? = some n → ∃ t, ws.toList[i]? = some (Value.int n t)

theorem Cx.Ok.noMods {C : Cx} (O : C.Ok) {a : Addr} (h : C.hB.get? a = none) : (a == sysModules) = false := by
  obtain ⟨o, ho⟩ := O.mods
  simp only [beq_eq_false_iff_ne]
  rintro rfl
  rw [ho] at h; cases h

mutual
inductive VRel (aS : Addr) (h : Heap) : V → Value → Prop
  | none : VRel aS h .none .none
  | bool (b : Bool) : VRel aS h (.bool b) (.bool b)
  | int (i : Int) (t : Tok) : VRel aS h (.int i) (.int i t)
  | str (x : Str) (t : Tok) : VRel aS h (.str x) (.str x t)
  | ref (a : Addr) : VRel aS h (.ref a) (.ref a)
  | script : VRel aS h .script (.ref aS)
  | ty (n : String) : VRel aS h (.ty n) (.type n)
  | tup {vs : List V} {a : Addr} {ws : List Value} : h.IsTuple a ws.toArray → VRels aS h vs ws → VRel aS h (.tup vs) (.ref a)
inductive VRels (aS : Addr) (h : Heap) : List V → List Value → Prop
  | nil : VRels aS h [] []
  | cons {v : V} {w : Value} {vs : List V} {ws : List Value} : VRel aS h v w → VRels aS h vs ws → VRels aS h (v :: vs) (w :: ws)
end

def IsT (o : Obj) : Prop := o.cls = .type "tuple" ∧ ∃ it n, o.data = .seq it n
def TupKeep (h h' : Heap) : Prop := ∀ b o, h.get? b = some o → IsT o → h'.get? b = some o
mutual
theorem VRel.keep {aS : Addr} {h h' : Heap} (k : TupKeep h h') : ∀ {v : V} {w : Value}, VRel aS h v w → VRel aS h' v w
  | _, _, .none => .none
  | _, _, .bool b => .bool b
  | _, _, .int i t => .int i t
  | _, _, .str x t => .str x t
  | _, _, .ref a => .ref a
  | _, _, .script => .script
  | _, _, .ty n => .ty n
  | _, _, .tup ht hs => .tup (let ⟨o, ho, hc, r⟩ := ht; ⟨o, k _ o ho ⟨hc, _, r⟩, hc, r⟩) (VRels.keep k hs)
theorem VRels.keep {aS : Addr} {h h' : Heap} (k : TupKeep h h') : ∀ {vs : List V} {ws : List Value}, VRels aS h vs ws → VRels aS h' vs ws
  | _, _, .nil => .nil
  | _, _, .cons a b => .cons (VRel.keep k a) (VRels.keep k b)
end
theorem VRels.length {aS : Addr} {h : Heap} : ∀ {vs : List V} {ws : List Value}, VRels aS h vs ws → vs.length = ws.length
  | _, _, .nil => rfl
  | _, _, .cons _ r => by simp [VRels.length r]
theorem VRels.get {aS : Addr} {h : Heap} : ∀ {vs : List V} {ws : List Value}, VRels aS h vs ws → ∀ {i : Nat} {v : V}, vs[i]? = some v → ∃ w, ws[i]? = some w ∧ VRel aS h v w
  | _, _, .nil, i, v, e => by simp at e
  | _, _, .cons a r, 0, v, e => by simp at e; subst e; exact ⟨_, rfl, a⟩
  | _, _, .cons a r, i + 1, v, e => by simp at e; obtain ⟨w, h1, h2⟩ := VRels.get r e; exact ⟨w, by simpa using h1, h2⟩
theorem VRels.append {aS : Addr} {h : Heap} : ∀ {vs vs' : List V} {ws ws' : List Value}, VRels aS h vs ws → VRels aS h vs' ws' → VRels aS h (vs ++ vs') (ws ++ ws')
  | _, _, _, _, .nil, b => b
  | _, _, _, _, .cons a r, b => .cons a (VRels.append r b)

/-- the heap bears an object of the view -/
def PRel {K : Type} (aS : Addr) (h : Heap) : List (K × V) → List (K × Value) → Prop
  | [], [] => True
  | (k, v) :: r, (k', w) :: r' => k = k' ∧ VRel aS h v w ∧ PRel aS h r r'
  | _, _ => False
theorem PRel.keep {K : Type} {aS : Addr} {h h' : Heap} (k : TupKeep h h') : ∀ {a : List (K × V)} {b : List (K × Value)}, PRel aS h a b → PRel aS h' a b
  | [], [], _ => trivial
  | (_, _) :: _, (_, _) :: _, ⟨e, v, r⟩ => ⟨e, v.keep k, PRel.keep k r⟩
theorem PRel.length {K : Type} {aS : Addr} {h : Heap} : ∀ {a : List (K × V)} {b : List (K × Value)}, PRel aS h a b → a.length = b.length
  | [], [], _ => rfl
  | (_, _) :: _, (_, _) :: _, ⟨_, _, r⟩ => by simp [PRel.length r]

theorem PRel.get {K : Type} {aS : Addr} {h : Heap} : ∀ {a : List (K × V)} {b : List (K × Value)}, PRel aS h a b → ∀ {i : Nat} {k : K} {v : V}, a[i]? = some (k, v) → ∃ w, b[i]? = some (k, w) ∧ VRel aS h v w
  | [], [], _, i, k, v, e => by simp at e
  | (_, _) :: _, (_, w) :: _, ⟨e1, e2, _⟩, 0, k, v, e => by simp at e; obtain ⟨rfl, rfl⟩ := e; exact ⟨w, by simp [e1], e2⟩
  | (_, _) :: _, (_, _) :: _, ⟨_, _, r⟩, i + 1, k, v, e => by simp at e; obtain ⟨w, h1, h2⟩ := PRel.get r e; exact ⟨w, by simpa using h1, h2⟩

def ObjRel (C : Cx) (h : Heap) (a : Addr) : AObj → Prop
  | .list xs => xs.length ≤ 16777216 ∧ ∃ ws : List Value, h.PlainList a ws.toArray ∧ VRels C.aS h xs ws
  | .dict kvs ep => kvs.length ≤ 16777216 ∧ ∃ kws, h.DictAt (strKind C.prog C.w) a kws ep ∧ PRel C.aS h kvs kws
  | .idict kvs ep => kvs.length ≤ 16777216 ∧ ∃ kws, h.DictAt (intKind C.prog C.w) a kws ep ∧ PRel C.aS h kvs kws
theorem ObjRel.keep {C : Cx} {h h' : Heap} {a : Addr} {o : AObj} (x : ObjRel C h a o) (k : TupKeep h h') (ka : ∀ o, h.get? a = some o → h'.get? a = some o) : ObjRel C h' a o := by
  cases o with
  | list xs => obtain ⟨hz, ws, h1, h2⟩ := x; exact ⟨hz, ws, h1.at ka, h2.keep k⟩
  | dict kvs ep => obtain ⟨hz, ws, h1, h2⟩ := x; exact ⟨hz, ws, h1.at' ka, h2.keep k⟩
  | idict kvs ep => obtain ⟨hz, ws, h1, h2⟩ := x; exact ⟨hz, ws, h1.at' ka, h2.keep k⟩
/-- the object of the view at a is neither a tuple nor a cell -/
theorem ObjRel.shape {C : Cx} {h : Heap} {a : Addr} {o : AObj} (x : ObjRel C h a o) : ∃ ob, h.get? a = some ob ∧ ¬ IsT ob ∧ ∀ v, ob.data ≠ .cell v := by
  cases o with
  | list xs => obtain ⟨_, ws, ⟨n, h1⟩, h2⟩ := x; exact ⟨_, h1, by simp [IsT], by simp⟩
  | dict kvs ep => obtain ⟨_, ws, ⟨o, es, ho, hc, hd, _⟩, h2⟩ := x; exact ⟨o, ho, by simp [IsT, hd], by rw [hd]; simp⟩
  | idict kvs ep => obtain ⟨_, ws, ⟨o, es, ho, hc, hd, _⟩, h2⟩ := x; exact ⟨o, ho, by simp [IsT, hd], by rw [hd]; simp⟩

structure RelG (C : Cx) (σ : View) (s : Shared) : Prop where
  rest : ∃ h tk d, s = { C.s₁ with heap := h, toks := tk, drawn := d }
  base : ∀ b o, C.hB.get? b = some o → s.heap.get? b = some o
  view : ∀ a o, σ a = some o → ObjRel C s.heap a o
  apart : ∀ a, σ a ≠ none → C.hB.get? a = none

/-- the same object, or the same namespace with other slots -/
def Like (o o' : Obj) : Prop := o' = o ∨ ((∃ es ep, o.data = .dict es ep) ∧ ∃ sl, o' = { o with slots := sl })
theorem Like.refl (o : Obj) : Like o o := .inl rfl
theorem Like.trans {a b c : Obj} (x : Like a b) (y : Like b c) : Like a c := by
  rcases x with rfl | ⟨⟨es, ep, hd⟩, sl, rfl⟩
  · exact y
  · rcases y with rfl | ⟨_, sl', rfl⟩
    · exact .inr ⟨⟨es, ep, hd⟩, sl, rfl⟩
    · exact .inr ⟨⟨es, ep, hd⟩, sl', rfl⟩
theorem Like.ns {h h' : Heap} {a : Addr} {m : Str → Option Value} (hn : h.Ns a m) (k : ∀ o, h.get? a = some o → ∃ o', h'.get? a = some o' ∧ Like o o') : h'.Ns a m := by
  obtain ⟨o, es, ep, ho, hd, r⟩ := hn
  obtain ⟨o', ho', hl⟩ := k o ho
  rcases hl with rfl | ⟨_, sl, rfl⟩
  · exact ⟨_, es, ep, ho', hd, r⟩
  · exact ⟨_, es, ep, ho', hd, r⟩
structure Step (own : Addr → Prop) (σ σ' : View) (h h' : Heap) : Prop where
  keepL : ∀ b o, h.get? b = some o → σ b = none → ¬ own b → ∃ o', h'.get? b = some o' ∧ Like o o'
  size : h.objs.size ≤ h'.objs.size
  new : ∀ b, σ b = none → σ' b ≠ none → h.objs.size ≤ b
def no : Addr → Prop := fun _ => False
theorem Step.of {own : Addr → Prop} {σ σ' : View} {h h' : Heap} (k : ∀ b o, h.get? b = some o → σ b = none → ¬ own b → h'.get? b = some o) (size : h.objs.size ≤ h'.objs.size) (new : ∀ b, σ b = none → σ' b ≠ none → h.objs.size ≤ b) : Step own σ σ' h h' :=
  ⟨fun b o e n q => ⟨o, k b o e n q, Like.refl o⟩, size, new⟩
theorem Step.keep {own : Addr → Prop} {σ σ' : View} {h h' : Heap} (x : Step own σ σ' h h') (b : Addr) (o : Obj) (e : h.get? b = some o) (n : σ b = none) (q : ¬ own b) (hd : ∀ es ep, o.data ≠ .dict es ep) : h'.get? b = some o := by
  obtain ⟨o', h1, h2⟩ := x.keepL b o e n q
  rcases h2 with rfl | ⟨⟨es, ep, z⟩, _⟩
  · exact h1
  · exact absurd z (hd es ep)

theorem Step.mono {own own' : Addr → Prop} {σ σ' : View} {h h' : Heap} (x : Step own σ σ' h h') (k : ∀ b o, h.get? b = some o → own b → own' b) : Step own' σ σ' h h' :=
  ⟨fun b o e n q => x.keepL b o e n fun z => q (k b o e z), x.size, x.new⟩
theorem RelG.dom {C : Cx} {σ : View} {s : Shared} (R : RelG C σ s) : ∀ b, σ b ≠ none → s.heap.get? b ≠ none := fun b hb => by
  cases e : σ b with
  | none => exact absurd e hb
  | some o => obtain ⟨ob, h1, _⟩ := (R.view b o e).shape; rw [h1]; simp
theorem Step.refl {own : Addr → Prop} {σ : View} {h : Heap} : Step own σ σ h h :=
  .of (fun _ _ e _ _ => e) (Nat.le_refl _) fun _ h h' => absurd h h'
theorem Step.trans {own : Addr → Prop} {σ₁ σ₂ σ₃ : View} {h₁ h₂ h₃ : Heap} (x : Step own σ₁ σ₂ h₁ h₂) (y : Step own σ₂ σ₃ h₂ h₃) : Step own σ₁ σ₃ h₁ h₃ where
  keepL := fun b o e n q => by
    obtain ⟨o', h1, h2⟩ := x.keepL b o e n q
    obtain ⟨o'', h3, h4⟩ := y.keepL b o' h1 (by
      cases z : σ₂ b with
      | none => rfl
      | some o' => have := x.new b n (by rw [z]; simp); exact absurd (Heap.lt_size e) (Nat.not_lt.mpr this)) q
    exact ⟨o'', h3, h2.trans h4⟩
  size := Nat.le_trans x.size y.size
  new := fun b n m => by
    cases z : σ₂ b with
    | some o' => exact x.new b n (by rw [z]; simp)
    | none => exact Nat.le_trans x.size (y.new b z m)
theorem Step.tups {C : Cx} {own : Addr → Prop} {σ σ' : View} {s : Shared} {h' : Heap} (R : RelG C σ s) (x : Step own σ σ' s.heap h') (ho : ∀ b o, own b → s.heap.get? b = some o → ¬ IsT o) : TupKeep s.heap h' := fun b o e hc =>
  x.keep b o e (by
    cases z : σ b with
    | none => rfl
    | some o' => obtain ⟨ob, h1, h2, _⟩ := (R.view b o' z).shape; rw [e] at h1; cases h1; exact absurd hc h2) (fun z => ho b o z e hc) (fun es ep z => by obtain ⟨_, it, n, hd⟩ := hc; rw [hd] at z; cases z)
theorem Step.tupsN {C : Cx} {σ σ' : View} {s : Shared} {h' : Heap} (R : RelG C σ s) (x : Step no σ σ' s.heap h') : TupKeep s.heap h' := x.tups R fun _ _ z => z.elim

/-- nothing of the view is touched, objects may be new -/
theorem RelG.grow {C : Cx} {σ : View} {s : Shared} {h' : Heap} {tk : Nat} (R : RelG C σ s) (k : ∀ b o, s.heap.get? b = some o → h'.get? b = some o) : RelG C σ { s with heap := h', toks := tk } where
  rest := let ⟨_, _, d, e⟩ := R.rest; ⟨h', tk, d, by rw [e]⟩
  base := fun b o e => k b o (R.base b o e)
  view := fun a o e => (R.view a o e).keep (fun b o e _ => k b o e) fun o e => k a o e
  apart := R.apart
theorem Step.grow {own : Addr → Prop} {σ : View} {h h' : Heap} (k : ∀ b o, h.get? b = some o → h'.get? b = some o) (z : h.objs.size ≤ h'.objs.size) : Step own σ σ h h' :=
  .of (fun b o e _ _ => k b o e) z fun _ h h' => absurd h h'
theorem Step.push {own : Addr → Prop} {σ : View} {h : Heap} {o : Obj} : Step own σ σ h (h.push o) := .grow (fun _ _ e => Heap.get?_push_of_some _ e) (by rw [Heap.size_push]; exact Nat.le_succ _)
theorem RelG.tok {C : Cx} {σ : View} {s : Shared} (R : RelG C σ s) (tk : Nat) : RelG C σ { s with toks := tk } := R.grow fun _ _ e => e

theorem RelG.freshNone {C : Cx} {σ : View} {s : Shared} (R : RelG C σ s) {a : Addr} (h : s.heap.get? a = none) : σ a = none := by
  cases e : σ a with
  | none => rfl
  | some o => exact absurd h (R.dom a (by rw [e]; simp))
theorem size_none (h : Heap) : h.get? h.objs.size = none := by
  cases e : h.get? h.objs.size with
  | none => rfl
  | some o => exact absurd (Heap.lt_size e) (Nat.lt_irrefl _)
theorem RelG.baseNone {C : Cx} {σ : View} {s : Shared} (R : RelG C σ s) {a : Addr} (h : s.heap.get? a = none) : C.hB.get? a = none := by
  cases e : C.hB.get? a with
  | none => rfl
  | some o => rw [R.base a o e] at h; cases h
/-- a new object enters the view -/
theorem RelG.add {C : Cx} {σ : View} {s : Shared} {h' : Heap} {tk : Nat} {a : Addr} {o : AObj} (R : RelG C σ s) (k : ∀ b o, s.heap.get? b = some o → h'.get? b = some o) (hn : s.heap.get? a = none) (ho : ObjRel C h' a o) :
    RelG C (upd σ a o) { s with heap := h', toks := tk } where
  rest := (R.grow (tk := tk) k).rest
  base := (R.grow (tk := tk) k).base
  view := fun b o' e => by
    by_cases hb : b = a
    · subst hb; rw [upd_same] at e; cases e; exact ho
    · rw [upd_ne hb] at e; exact (R.grow (tk := tk) k).view b o' e
  apart := fun b hb => by
    by_cases q : b = a
    · subst q; exact R.baseNone hn
    · rw [upd_ne q] at hb; exact R.apart b hb
theorem Step.add {own : Addr → Prop} {σ : View} {h h' : Heap} {a : Addr} {o : AObj} (k : ∀ b o, h.get? b = some o → h'.get? b = some o) (z : h.objs.size ≤ h'.objs.size) (hn : h.objs.size ≤ a) : Step own σ (upd σ a o) h h' :=
  .of (fun b o e _ _ => k b o e) z fun b n m => by
    by_cases q : b = a
    · subst q; exact hn
    · rw [upd_ne q] at m; exact absurd n m
theorem Step.addPush {own : Addr → Prop} {σ : View} {h : Heap} {ob : Obj} {o : AObj} : Step own σ (upd σ h.objs.size o) h (h.push ob) := .add (fun _ _ e => Heap.get?_push_of_some _ e) (by rw [Heap.size_push]; exact Nat.le_succ _) (Nat.le_refl _)
/-- an object of the view changes -/
theorem RelG.change {C : Cx} {σ : View} {s : Shared} {h' : Heap} {tk : Nat} {a : Addr} {o o' : AObj} (R : RelG C σ s) (ha : σ a = some o) (k : Heap.SameBut a s.heap h') (ho : ObjRel C h' a o') : RelG C (upd σ a o') { s with heap := h', toks := tk } where
  rest := let ⟨_, _, d, e⟩ := R.rest; ⟨h', tk, d, by rw [e]⟩
  base := fun b o e => (k.2 b (by rintro rfl; rw [R.apart b (by rw [ha]; simp)] at e; cases e)).trans (R.base b o e)
  view := fun b o₂ e => by
    by_cases hb : b = a
    · subst hb; rw [upd_same] at e; cases e; exact ho
    · rw [upd_ne hb] at e
      refine (R.view b o₂ e).keep (fun c oc ec hc => ?_) fun oc ec => (k.2 b hb).trans ec
      exact (k.2 c (by rintro rfl; obtain ⟨ob, h1, h2, _⟩ := (R.view c o ha).shape; rw [ec] at h1; cases h1; exact h2 hc)).trans ec
  apart := fun b hb => by
    by_cases q : b = a
    · subst q; exact R.apart b (by rw [ha]; simp)
    · rw [upd_ne q] at hb; exact R.apart b hb
theorem Step.change {own : Addr → Prop} {σ : View} {h h' : Heap} {a : Addr} {o o' : AObj} (ha : σ a = some o) (k : Heap.SameBut a h h') : Step own σ (upd σ a o') h h' :=
  .of (fun b o₂ e n _ => (k.2 b (by rintro rfl; rw [ha] at n; cases n)).trans e) (Nat.le_of_eq k.1.symm)
   fun b n m => by
    by_cases q : b = a
    · subst q; rw [ha] at n; cases n
    · rw [upd_ne q] at m; exact absurd n m
theorem get_none_of_size {h : Heap} {a : Addr} (q : h.objs.size ≤ a) : h.get? a = none := by
  cases e : h.get? a with
  | none => rfl
  | some o => exact absurd (Heap.lt_size e) (Nat.not_lt.mpr q)

/- the heap never shrinks -/
theorem runs_size {M : Model} {Γ : Ctx} {p : Pos} {t : Sem Fin} {fs : List Frame} {s s' : Shared} {e : End} (h : Runs M Γ p t fs s e s') : s.heap.objs.size ≤ s'.heap.objs.size := by
  induction h <;> (try simp only [Shared.setGen, Heap.size_push, Heap.size_after_update] at *) <;> omega
theorem wakes_size {M : Model} {Γ : Ctx} {p : Pos} {g : Nat} {r : Resume} {s s' : Shared} {res : GenResult} (h : Wakes M Γ p g r s res s') : s.heap.objs.size ≤ s'.heap.objs.size := by
  unfold Wakes at h
  split at h
  · exact h.elim
  · split at h
    · obtain ⟨e₁, s₁, hr, _, _, rfl⟩ := h; exact (runs_size hr : (s.setGen g .running).heap.objs.size ≤ s₁.heap.objs.size)
    · rw [h.2]; exact Nat.le_refl _
    · rw [h.2]; exact Nat.le_refl _
  · obtain ⟨e₁, s₁, hr, _, _, rfl⟩ := h; exact (runs_size hr : (s.setGen g .running).heap.objs.size ≤ s₁.heap.objs.size)
  · rw [h.2]; exact Nat.le_refl _
  · rw [h.2]; exact Nat.le_refl _
theorem wp_size {α : Type} (M : Model) (Γ : Ctx) (n : Nat) (t : Sem α) : ∀ (Q : α → Pos → Shared → Prop) (E : Value → Pos → Shared → Prop) (p : Pos) (s : Shared), n ≤ s.heap.objs.size → Sem.wp M Γ t Q E p s →
    Sem.wp M Γ t (fun a p' s' => n ≤ s'.heap.objs.size ∧ Q a p' s') (fun e p' s' => n ≤ s'.heap.objs.size ∧ E e p' s') p s := by
  induction t with
  | pure a | raise a => intro Q E p s hn h; exact ⟨hn, h⟩
  | unsupported | finish | register | yield | fork | await => intro Q E p s _ h; exact h
  | rule _ k ih | «at» _ k ih | point _ k ih | ask k ih | handled _ k ih | stack k ih | thread k ih | loadIfAlive _ k ih | fresh k ih | os _ _ k ih | newGen _ k ih => intro Q E p s hn h; exact ih _ Q E _ _ hn h
  | load a _ k ih => intro Q E p s hn h; obtain ⟨o, ho, h⟩ := h; exact ⟨o, ho, ih o Q E p s hn h⟩
  | update a _ f k ih => intro Q E p s hn h; exact ⟨h.1, ih () Q E p _ (by simpa using hn) h.2⟩
  | alloc o k ih => intro Q E p s hn h; exact ih _ Q E p _ (by simp; omega) h
  | choose src m k ih => intro Q E p s hn h; exact ⟨h.1, ih _ Q E p _ hn h.2⟩
  | call c hd _ _ k ih => intro Q E p s hn h; obtain ⟨r, s', hr, h⟩ := h; exact ⟨r, s', hr, ih r Q E p s' (Nat.le_trans hn (runs_size hr)) h⟩
  | genState g k ih => intro Q E p s hn h; obtain ⟨st, hs, h⟩ := h; exact ⟨st, hs, ih _ Q E p s hn h⟩
  | resume g r _ k ih => intro Q E p s hn h; obtain ⟨res, s', hw, h⟩ := h; exact ⟨res, s', hw, ih res Q E p s' (Nat.le_trans hn (wakes_size hw)) h⟩
/-- behind a tree the heap has at least the size it had -/
theorem with_size {α : Type} {M : Model} {A : Around} {s : Shared} {t : Sem α} {Q : α → Shared → Prop} {E : Value → Shared → Prop}
    (h : wpAny M A t (fun a s' => s.heap.objs.size ≤ s'.heap.objs.size → Q a s') E s) : wpAny M A t Q E s :=
  fun Γ p hΓ => Sem.wp_mono M Γ t (fun _ _ _ x => x.2 x.1) (fun _ _ _ x => x.2) p s (wp_size M Γ _ t _ _ p s (Nat.le_refl _) (h Γ p hΓ))

/-- forget an object -/
def del (σ : View) (a : Addr) : View := fun b => if b = a then none else σ b
end Mine


end
noncomputable section
set_option autoImplicit false
namespace Mine
open PySem

def Own (env : Env) (b : Addr) : Prop := b = env.locals ∨ ∃ n, env.cells.lookup n = some b

structure FrameRel (C : Cx) (env : Env) (m : Loc) (σ : View) (h : Heap) : Prop where
  ns : ∃ mm, h.Ns env.locals mm ∧ ∀ x v, m x = some v → env.kindOf (Str.ofString x) = some .local → ∃ w, mm (Str.ofString x) = some w ∧ VRel C.aS h v w
  cel : ∀ x v, m x = some v → env.kindOf (Str.ofString x) = some .local ∨
    ((env.kindOf (Str.ofString x) = some .cell ∨ env.kindOf (Str.ofString x) = some .free) ∧ ∃ c w, env.cells.lookup (Str.ofString x) = some c ∧ h.IsCell c (some w) ∧ VRel C.aS h v w)
  cells : ∀ n c, env.cells.lookup n = some c → ∃ v, h.IsCell c v
  sepL : σ env.locals = none
  baseL : C.hB.get? env.locals = none
  baseC : ∀ n c, env.cells.lookup n = some c → C.hB.get? c = none
  dist : env.cells.Pairwise fun x y => x.2 ≠ y.2
  has : ∀ n, env.kindOf n = some .cell ∨ env.kindOf n = some .free → ∃ c, env.cells.lookup n = some c

theorem FrameRel.step {C : Cx} {env : Env} {m : Loc} {σ σ' : View} {s : Shared} {h' : Heap} (F : FrameRel C env m σ s.heap) (R : RelG C σ s) (S : Step no σ σ' s.heap h') : FrameRel C env m σ' h' := by
  have kt := S.tupsN R
  have kc : ∀ c v, s.heap.IsCell c v → h'.IsCell c v := fun c v ⟨o, ho, hd⟩ => ⟨o, S.keep c o ho (by
    cases z : σ c with
    | none => rfl
    | some o' => obtain ⟨ob, h1, _, h3⟩ := (R.view c o' z).shape; rw [ho] at h1; cases h1; exact absurd hd (h3 v)) (fun z => z) (fun es ep z => by rw [hd] at z; cases z), hd⟩
  obtain ⟨mm, hn, hv⟩ := F.ns
  have hl : ∃ o, s.heap.get? env.locals = some o := let ⟨o, _, _, ho, _⟩ := hn; ⟨o, ho⟩
  refine ⟨⟨mm, Like.ns hn fun o e => S.keepL _ o e F.sepL (fun z => z), fun x v e k => ?_⟩, fun x v e => ?_, fun n c e => ?_, ?_, F.baseL, F.baseC, F.dist, F.has⟩
  · obtain ⟨w, h1, h2⟩ := hv x v e k; exact ⟨w, h1, h2.keep kt⟩
  · rcases F.cel x v e with q | ⟨q, c, w, h1, h2, h3⟩
    · exact .inl q
    · exact .inr ⟨q, c, w, h1, kc _ _ h2, h3.keep kt⟩
  · obtain ⟨v, hv⟩ := F.cells n c e; exact ⟨v, kc _ _ hv⟩
  · cases z : σ' env.locals with
    | none => rfl
    | some o => obtain ⟨ol, hol⟩ := hl; have := S.new env.locals F.sepL (by rw [z]; simp); exact absurd (Heap.lt_size hol) (Nat.not_lt.mpr this)

structure AOk (C : Cx) (A : Around) (k : Nat) : Prop where
  handled : A.handled = C.held.map Value.ref
  depth : A.depth + 3 * k + 3 < recursionLimit
  units : A.units + 10 * k + 20 < cLine
theorem AOk.le {C : Cx} {A : Around} {k j : Nat} (x : AOk C A k) (h : j ≤ k) : AOk C A j := ⟨x.handled, by have := x.depth; omega, by have := x.units; omega⟩
theorem AOk.none {C : Cx} {A : Around} {k : Nat} (x : AOk C A k) (hp : C.held = none) : A.handled = none := by rw [x.handled, hp]; rfl
structure EnvOk (env : Env) (sc : Scope) : Prop where
  scope : env.scope = sc
  kind : sc.kind = .function
  globals : env.globals = mainGlobals
  builtins : env.builtins = builtinsNs
theorem EnvOk.k {env : Env} {sc : Scope} (e : EnvOk env sc) : env.scope.kind = .function := by rw [e.scope]; exact e.kind
theorem EnvOk.of {env : Env} {sc : Scope} (e : EnvOk env sc) {x : Str} {n : Option NameKind} (h : sc.names.lookup x = n) : env.kindOf x = n := by unfold Env.kindOf; rw [e.scope]; exact h

abbrev ET := Loc → View → (V → View → Prop) → Prop
abbrev BT := Loc → View → (Bool → View → Prop) → Prop
abbrev LT := Loc → View → (List V → View → Prop) → Prop

structure HE (C : Cx) (sc : Scope) (k : Nat) (e : Expr) (T : ET) : Prop where
  run : ∀ (env : Env) (A : Around) (s : Shared) (m : Loc) (σ : View) (Q : V → View → Prop) (P : Value → Shared → Prop) (E : Value → Shared → Prop),
    EnvOk env sc → AOk C A k → RelG C σ s → FrameRel C env m σ s.heap → T m σ Q →
    (∀ v w σ' s', VRel C.aS s'.heap v w → RelG C σ' s' → Step no σ σ' s.heap s'.heap → Q v σ' → P w s') →
    wpAny (model C.prog C.w) A (eval e env) P E s
/-- a test -/
structure HB (C : Cx) (sc : Scope) (k : Nat) (e : Expr) (T : BT) : Prop where
  run : ∀ (env : Env) (A : Around) (s : Shared) (m : Loc) (σ : View) (Q : Bool → View → Prop) (P : Bool → Shared → Prop) (E : Value → Shared → Prop),
    EnvOk env sc → AOk C A k → RelG C σ s → FrameRel C env m σ s.heap → T m σ Q →
    (∀ b σ' s', RelG C σ' s' → Step no σ σ' s.heap s'.heap → Q b σ' → P b s') →
    wpAny (model C.prog C.w) A (isTrue e env (eval e env)) P E s
/-- arguments, displays -/
structure HL (C : Cx) (sc : Scope) (k : Nat) (es : List Expr) (T : LT) : Prop where
  run : ∀ (env : Env) (A : Around) (s : Shared) (m : Loc) (σ : View) (pos : Pos) (Q : List V → View → Prop) (P : List Value → Shared → Prop) (E : Value → Shared → Prop),
    EnvOk env sc → AOk C A k → RelG C σ s → FrameRel C env m σ s.heap → T m σ Q →
    (∀ vs ws σ' s', VRels C.aS s'.heap vs ws → RelG C σ' s' → Step no σ σ' s.heap s'.heap → Q vs σ' → P ws s') →
    wpAny (model C.prog C.w) A (spliced (backTo pos (starEach es env))) P E s

section
variable {C : Cx} {sc : Scope} {k : Nat}

def eName (x : String) : ET := fun m σ Q => ∃ v, m x = some v ∧ Q v σ
theorem HE.name {x : String} {pos : Pos} (h : sc.names.lookup (Str.ofString x) = some .local) (hd : (Str.ofString x == ("__debug__" : Str)) = false) : HE C sc k (.Name (Str.ofString x) pos) (eName x) := by
  refine ⟨?_⟩; intro env A s m σ Q P E en ao R F ⟨v, hv, q⟩ hP
  obtain ⟨mm, hn, hm⟩ := F.ns
  obtain ⟨w, hw, hr⟩ := hm x v hv (en.of h)
  exact wpAny_Name (wpAny_loadName_local en.k (en.of h) hn hw (hP v w σ s hr R Step.refl q)) hd
theorem HE.cell {x : String} {pos : Pos} (h : sc.names.lookup (Str.ofString x) = some .cell) (hd : (Str.ofString x == ("__debug__" : Str)) = false) : HE C sc k (.Name (Str.ofString x) pos) (eName x) := by
  refine ⟨?_⟩; intro env A s m σ Q P E en ao R F ⟨v, hv, q⟩ hP
  have kk := en.of h
  rcases F.cel x v hv with z | ⟨_, c, w, h1, h2, h3⟩
  · rw [kk] at z; cases z
  · exact wpAny_Name (wpAny_loadName_cell en.k kk h1 h2 (hP v w σ s h3 R Step.refl q)) hd
def eVal (v : V) : ET := fun _ σ Q => Q v σ
theorem HE.glob (O : C.Ok) {x : String} {pos : Pos} {v : V} {w : Value} (h : sc.names.lookup (Str.ofString x) = some .globalImplicit) (hg : C.mg (Str.ofString x) = some w) (hv : ∀ h, VRel C.aS h v w) (hd : (Str.ofString x == ("__debug__" : Str)) = false) :
    HE C sc k (.Name (Str.ofString x) pos) (eVal v) := by
  refine ⟨?_⟩; intro env A s m σ Q P E en ao R F q hP
  exact Calls.Name_function_global en.k (en.of h) (Calls.loadGlobal_global (mg := C.mg) (by rw [en.globals]; exact O.g.keeps R.base) hg (hP v w σ s (hv _) R Step.refl q)) hd
theorem HE.int {i : Int} {n : Nat} {pos : Pos} : HE C sc k (.Constant (.int i) n pos) (eVal (.int i)) := by
  refine ⟨?_⟩; intro env A s m σ Q P E en ao R F q hP
  exact wpAny_Constant_int (hP _ _ σ _ (.int i _) (R.tok _) (Step.refl) q)
theorem HE.str {x : Str} {n : Nat} {pos : Pos} : HE C sc k (.Constant (.str x) n pos) (eVal (.str x)) := by
  refine ⟨?_⟩; intro env A s m σ Q P E en ao R F q hP
  exact Calls.Constant_str (hP _ _ σ _ (.str x _) (R.tok _) (Step.refl) q)
theorem HE.bool {b : Bool} {n : Nat} {pos : Pos} : HE C sc k (.Constant (.bool b) n pos) (eVal (.bool b)) := by
  refine ⟨?_⟩; intro env A s m σ Q P E en ao R F q hP
  exact wpAny_Constant_bool (hP _ _ σ _ (.bool b) R (Step.refl) q)
theorem HE.gty (O : C.Ok) {x n : String} {pos : Pos} (h : sc.names.lookup (Str.ofString x) = some .globalImplicit) (hg : C.mg (Str.ofString x) = Option.none) (hb : C.mb (Str.ofString x) = some (.type n)) (hd : (Str.ofString x == ("__debug__" : Str)) = false) :
    HE C sc k (.Name (Str.ofString x) pos) (eVal (.ty n)) := by
  refine ⟨?_⟩; intro env A s m σ Q P E en ao R F q hP
  exact Calls.Name_function_global en.k (en.of h) (Calls.loadGlobal_builtin (mg := C.mg) (mb := C.mb) (by rw [en.globals]; exact O.g.keeps R.base) hg (by rw [en.builtins]; exact O.b.keeps R.base) hb (hP _ _ σ s (.ty n) R Step.refl q)) hd

def lNil : LT := fun _ σ Q => Q [] σ
def lCons (T : ET) (L : LT) : LT := fun m σ Q => T m σ fun v σ₁ => L m σ₁ fun vs σ₂ => Q (v :: vs) σ₂
theorem HL.nil : HL C sc k [] lNil := by
  refine ⟨?_⟩; intro env A s m σ pos Q P E en ao R F q hP
  exact Calls.spliced_nil (hP [] [] σ s .nil R Step.refl q)
def notStar : Expr → Bool
  | .Starred .. => false
  | _ => true
theorem starEach_plain {e : Expr} {rest : List Expr} {env : Env} (h : notStar e = true) : starEach (e :: rest) env = (false, eval e env) :: starEach rest env := by
  cases e <;> first | rfl | cases h
theorem HL.cons {e : Expr} {es : List Expr} {T : ET} {L : LT} (he : HE C sc k e T) (hl : HL C sc k es L) (hs : notStar e = true) : HL C sc k (e :: es) (lCons T L) := by
  refine ⟨?_⟩; intro env A s m σ pos Q P E en ao R F q hP
  rw [starEach_plain hs]
  show wpAny _ A (spliced ((false, eval e env) :: backTo pos (starEach es env))) P E s
  refine Calls.spliced_cons (he.run env A s m σ _ _ E en ao R F q fun v w σ₁ s₁ hv R₁ S₁ q₁ => ?_)
  exact hl.run env A s₁ m σ₁ pos _ _ E en ao R₁ (F.step R S₁) q₁ fun vs ws σ₂ s₂ hvs R₂ S₂ q₂ => hP _ _ σ₂ s₂ (.cons (hv.keep (S₂.tupsN R₁)) hvs) R₂ (S₁.trans S₂) q₂

def eTup (L : LT) : ET := fun m σ Q => L m σ fun vs σ₁ => vs.length ≤ 1000 ∧ Q (.tup vs) σ₁
theorem push_old {h : Heap} {o : Obj} : ∀ b o', h.get? b = some o' → (h.push o).get? b = some o' := fun _ _ e => Heap.get?_push_of_some _ e
theorem HE.tup {es : List Expr} {L : LT} {n : Nat} {pos : Pos} (hl : HL C sc k es L) : HE C sc k (.Tuple es n pos) (eTup L) := by
  refine ⟨?_⟩; intro env A s m σ Q P E en ao R F q hP
  show wpAny _ A (do standAt pos; newTuple (← spliced (backTo pos (starEach es env)))) P E s
  refine wpAny_bind (wpAny_standAt (wpAny_bind (hl.run env A s m σ pos _ _ E en ao R F q fun vs ws σ₁ s₁ hv R₁ S₁ q₁ => ?_)))
  have hlen := hv.length
  refine wpAny_newTuple (hP _ _ σ₁ _ (.tup (ws := ws) ⟨_, Heap.get?_push_size _ rfl, rfl, _, rfl⟩ (hv.keep fun _ _ e _ => push_old _ _ e)) (R₁.grow push_old) (S₁.trans .push) q₁.2) (by rw [← hlen, sizeLine_eq]; have := q₁.1; omega)
def newL (xs : List V) (σ : View) (Q : V → View → Prop) : Prop := ∀ a, σ a = none → Q (.ref a) (upd σ a (.list xs))
def eList (L : LT) : ET := fun m σ Q => L m σ fun vs σ₁ => vs.length ≤ 1000 ∧ newL vs σ₁ Q
theorem HE.list {es : List Expr} {L : LT} {pos : Pos} (hl : HL C sc k es L) : HE C sc k (.List es pos) (eList L) := by
  refine ⟨?_⟩; intro env A s m σ Q P E en ao R F q hP
  show wpAny _ A (do standAt pos; newList (← spliced (backTo pos (starEach es env)))) P E s
  refine wpAny_bind (wpAny_standAt (wpAny_bind (hl.run env A s m σ pos _ _ E en ao R F q fun vs ws σ₁ s₁ hv R₁ S₁ q₁ => ?_)))
  have hlen := hv.length
  have hn := size_none s₁.heap
  refine wpAny_newList (hP _ _ (upd σ₁ s₁.heap.objs.size (.list vs)) _ (.ref _) (R₁.add (tk := s₁.toks) push_old hn ⟨by have := q₁.1; omega, ws, ⟨_, Heap.get?_push_size _ rfl⟩, hv.keep fun _ _ e _ => push_old _ _ e⟩) (S₁.trans .addPush) (q₁.2 _ (R₁.freshNone hn))) (by rw [← hlen, sizeLine_eq]; have := q₁.1; omega)
end
end Mine


end
noncomputable section
set_option autoImplicit false
namespace Mine
open PySem

abbrev O2 := V → V → View → (V → View → Prop) → Prop
abbrev O1 := V → View → (V → View → Prop) → Prop
/-- what holds behind an operation -/
abbrev Aft (C : Cx) (σ : View) (s : Shared) (Q : V → View → Prop) (P : Value → Shared → Prop) : Prop :=
  ∀ v w σ' s', VRel C.aS s'.heap v w → RelG C σ' s' → Step no σ σ' s.heap s'.heap → Q v σ' → P w s'
def Op2 (C : Cx) (k : Nat) (t : Value → Value → Sem Value) (op : O2) : Prop :=
  ∀ (A : Around) (s : Shared) (σ : View) (a b : V) (wa wb : Value) (Q : V → View → Prop) (P E : Value → Shared → Prop), AOk C A k → RelG C σ s → VRel C.aS s.heap a wa → VRel C.aS s.heap b wb → op a b σ Q → Aft C σ s Q P →
    wpAny (model C.prog C.w) A (t wa wb) P E s
def eBin (op : O2) (T U : ET) : ET := fun m σ Q => T m σ fun a σ₁ => U m σ₁ fun b σ₂ => op a b σ₂ Q
def eUn (op : O1) (T : ET) : ET := fun m σ Q => T m σ fun a σ₁ => op a σ₁ Q
section
variable {C : Cx} {sc : Scope} {k : Nat}
theorem two {op : O2} {t : Value → Value → Sem Value} {T U : ET} {e f : Expr} (hop : Op2 C k t op) (he : HE C sc k e T) (hf : HE C sc k f U) {env : Env} {A : Around} {s : Shared} {m : Loc} {σ : View} {Q : V → View → Prop} {P E : Value → Shared → Prop}
    (en : EnvOk env sc) (ao : AOk C A k) (R : RelG C σ s) (F : FrameRel C env m σ s.heap) (q : eBin op T U m σ Q) (hP : Aft C σ s Q P) :
    wpAny (model C.prog C.w) A (eval e env) (fun a s₁ => wpAny (model C.prog C.w) A (eval f env) (fun b s₂ => wpAny (model C.prog C.w) A (t a b) P E s₂) E s₁) E s :=
  he.run env A s m σ _ _ E en ao R F q fun a wa σ₁ s₁ va R₁ S₁ q₁ =>
    hf.run env A s₁ m σ₁ _ _ E en ao R₁ (F.step R S₁) q₁ fun b wb σ₂ s₂ vb R₂ S₂ q₂ =>
      hop A s₂ σ₂ a b wa wb Q P E ao R₂ (va.keep (S₂.tupsN R₁)) vb q₂ fun v w σ' s' hv R' S' q' => hP v w σ' s' hv R' ((S₁.trans S₂).trans S') q'
theorem HE.bin {op : O2} {o : Operator} {l r : Expr} {pos : Pos} {T U : ET} (hop : Op2 C k (binaryOp o) op) (hl : HE C sc k l T) (hr : HE C sc k r U) : HE C sc k (.BinOp l o r pos) (eBin op T U) := by
  refine ⟨?_⟩; intro env A s m σ Q P E en ao R F q hP
  exact wpAny_BinOp (two hop hl hr en ao R F q hP)
theorem HE.cmp {op : O2} {o : CmpOp} {l r : Expr} {pos : Pos} {T U : ET} (hop : Op2 C k (compareOp o) op) (hl : HE C sc k l T) (hr : HE C sc k r U) (hm : behindInMarks o r = false) : HE C sc k (.Compare l [o] [r] pos) (eBin op T U) := by
  refine ⟨?_⟩; intro env A s m σ Q P E en ao R F q hP
  exact wpAny_Compare1 (two hop hl hr en ao R F q hP) hm
/- tests -/
def tBool (T : ET) : BT := fun m σ Q => T m σ fun v σ' => ∃ b, v = .bool b ∧ Q b σ'
theorem HB.cmp {op : O2} {o : CmpOp} {l r : Expr} {pos : Pos} {T U : ET} (hop : Op2 C k (compareOp o) op) (hl : HE C sc k l T) (hr : HE C sc k r U) (hm : behindInMarks o r = false) : HB C sc k (.Compare l [o] [r] pos) (tBool (eBin op T U)) := by
  refine ⟨?_⟩; intro env A s m σ Q P E en ao R F q hP
  refine wpAny_isTrue_Compare1 (two (P := fun c s₃ => wpAny _ A (truthy c) P E s₃) hop hl hr en ao R F q fun v w σ' s' hv R' S' q' => ?_) hm
  obtain ⟨b, rfl, q'⟩ := q'
  cases hv
  exact wpAny_truthy_bool (hP b σ' s' R' S' q')
/-- a < b < c -/
def tCmp2 (o1 o2 : O2) (T U W : ET) : BT := fun m σ Q => T m σ fun a σ₁ => U m σ₁ fun b σ₂ => o1 a b σ₂ fun v σ₃ => ∃ x, v = .bool x ∧ if x then W m σ₃ fun c σ₄ => o2 b c σ₄ fun u σ₅ => ∃ y, u = .bool y ∧ Q y σ₅ else Q false σ₃
theorem HB.cmp2 {p1 p2 : O2} {o1 o2 : CmpOp} {l r z : Expr} {pos : Pos} {T U W : ET} (h1 : Op2 C k (compareOp o1) p1) (h2 : Op2 C k (compareOp o2) p2) (hl : HE C sc k l T) (hr : HE C sc k r U) (hz : HE C sc k z W) (hm : behindInMarks o2 z = false) :
    HB C sc k (.Compare l [o1, o2] [r, z] pos) (tCmp2 p1 p2 T U W) := by
  refine ⟨?_⟩; intro env A s m σ Q P E en ao R F q hP
  show wpAny _ A (do testChain pos (← eval l env) [o1, o2] [eval r env, markedBehindIn o2 z (eval z env)]) P E s
  rw [markedBehindIn_of_false hm]
  refine wpAny_bind (hl.run env A s m σ _ _ E en ao R F q fun a wa σ₁ s₁ va R₁ S₁ q₁ => ?_)
  show wpAny _ A (do
    let rv ← holding [wa] (eval r env)
    standAt pos
    let c ← holding [wa, rv] (compareOp o1 wa rv)
    release [wa, rv] [c]
    if ← holding [c, rv] (truthy c) then testChain pos rv [o2] [eval z env] else pure false) P E s₁
  refine wpAny_bind (wpAny_holding (hr.run env A s₁ m σ₁ _ _ E en ao R₁ (F.step R S₁) q₁ fun b wb σ₂ s₂ vb R₂ S₂ q₂ => ?_))
  refine wpAny_bind (wpAny_standAt (wpAny_bind (wpAny_holding ?_)))
  refine h1 A s₂ σ₂ a b wa wb _ _ E ao R₂ (va.keep (S₂.tupsN R₁)) vb q₂ fun v w σ₃ s₃ hv R₃ S₃ q₃ => ?_
  obtain ⟨x, rfl, q₃⟩ := q₃
  cases hv
  refine wpAny_bind ?_
  intro Γ p hΓ
  rw [Sem.wp_release]
  refine wpAny_bind (wpAny_holding (wpAny_truthy_bool ?_))
  have S₁₃ := (S₁.trans S₂).trans S₃
  cases x with
  | false => exact wpAny_pure (hP false σ₃ s₃ R₃ S₁₃ (by simpa using q₃))
  | true =>
    simp only [if_true] at q₃ ⊢
    show wpAny _ A (do
      let rv ← holding [wb] (eval z env)
      standAt pos
      let c ← operate [wb, rv] (compareOp o2 wb rv)
      holding [c] (truthy c)) P E s₃
    refine wpAny_bind (wpAny_holding (hz.run env A s₃ m σ₃ _ _ E en ao R₃ (F.step R S₁₃) q₃ fun c wc σ₄ s₄ vc R₄ S₄ q₄ => ?_))
    refine wpAny_bind (wpAny_standAt (wpAny_bind (wpAny_operating ?_)))
    refine h2 A s₄ σ₄ b c wb wc _ _ E ao R₄ ((vb.keep (S₃.tupsN R₂)).keep (S₄.tupsN R₃)) vc q₄ fun v w σ₅ s₅ hv R₅ S₅ q₅ => ?_
    obtain ⟨y, rfl, q₅⟩ := q₅
    cases hv
    exact wpAny_holding (wpAny_truthy_bool (hP y σ₅ s₅ R₅ ((S₁₃.trans S₄).trans S₅) q₅))
theorem HB.val {e : Expr} {T : ET} (he : HE C sc k e T) (hi : ∀ env whole, isTrue e env whole = (do let v ← whole; standAt e.pos; holding [v] (truthy v))) : HB C sc k e (tBool T) := by
  refine ⟨?_⟩; intro env A s m σ Q P E en ao R F q hP
  refine wpAny_isTrue_value (he.run env A s m σ _ _ E en ao R F q fun v w σ' s' hv R' S' q' => ?_) (hi env _)
  obtain ⟨b, rfl, q'⟩ := q'
  cases hv
  exact wpAny_truthy_bool (hP b σ' s' R' S' q')
def tNot (T : BT) : BT := fun m σ Q => T m σ fun b σ' => Q (!b) σ'
theorem HB.not {e : Expr} {pos : Pos} {T : BT} (he : HB C sc k e T) : HB C sc k (.UnaryOp .Not e pos) (tNot T) := by
  refine ⟨?_⟩; intro env A s m σ Q P E en ao R F q hP
  exact wpAny_isTrue_Not (he.run env A s m σ _ _ E en ao R F q fun b σ' s' R' S' q' => hP (!b) σ' s' R' S' q')
/-- a row of tests -/
structure HBs (C : Cx) (sc : Scope) (k : Nat) (op : BoolOp) (es : List Expr) (T : BT) : Prop where
  run : ∀ (env : Env) (A : Around) (s : Shared) (m : Loc) (σ : View) (Q : Bool → View → Prop) (P : Bool → Shared → Prop) (E : Value → Shared → Prop),
    EnvOk env sc → AOk C A k → RelG C σ s → FrameRel C env m σ s.heap → T m σ Q →
    (∀ b σ' s', RelG C σ' s' → Step no σ σ' s.heap s'.heap → Q b σ' → P b s') →
    wpAny (model C.prog C.w) A (allTrue op es env) P E s
def tT : BT := fun _ σ Q => Q true σ
def tF : BT := fun _ σ Q => Q false σ
def tAnd (T U : BT) : BT := fun m σ Q => T m σ fun b σ' => if b then U m σ' Q else Q false σ'
def tOr (T U : BT) : BT := fun m σ Q => T m σ fun b σ' => if b then Q true σ' else U m σ' Q
theorem HBs.andNil : HBs C sc k .And [] tT := ⟨fun _ _ s _ σ _ _ _ _ _ R _ q hP => wpAny_allTrue_And_nil (hP true σ s R Step.refl q)⟩
theorem HBs.orNil : HBs C sc k .Or [] tF := ⟨fun _ _ s _ σ _ _ _ _ _ R _ q hP => wpAny_allTrue_Or_nil (hP false σ s R Step.refl q)⟩
theorem HBs.and {e : Expr} {es : List Expr} {T U : BT} (he : HB C sc k e T) (hs : HBs C sc k .And es U) : HBs C sc k .And (e :: es) (tAnd T U) := by
  refine ⟨?_⟩; intro env A s m σ Q P E en ao R F q hP
  refine wpAny_allTrue_And_cons (he.run env A s m σ _ _ E en ao R F q fun b σ' s' R' S' q' => ?_)
  cases b with
  | false => simpa using hP false σ' s' R' S' (by simpa using q')
  | true => simp only [if_true] at q' ⊢; exact hs.run env A s' m σ' Q P E en ao R' (F.step R S') q' fun b σ₂ s₂ R₂ S₂ q₂ => hP b σ₂ s₂ R₂ (S'.trans S₂) q₂
theorem HBs.or {e : Expr} {es : List Expr} {T U : BT} (he : HB C sc k e T) (hs : HBs C sc k .Or es U) : HBs C sc k .Or (e :: es) (tOr T U) := by
  refine ⟨?_⟩; intro env A s m σ Q P E en ao R F q hP
  refine wpAny_allTrue_Or_cons (he.run env A s m σ _ _ E en ao R F q fun b σ' s' R' S' q' => ?_)
  cases b with
  | true => simpa using hP true σ' s' R' S' (by simpa using q')
  | false => simp only [Bool.false_eq_true, if_false] at q' ⊢; exact hs.run env A s' m σ' Q P E en ao R' (F.step R S') q' fun b σ₂ s₂ R₂ S₂ q₂ => hP b σ₂ s₂ R₂ (S'.trans S₂) q₂
theorem HB.boolOp {op : BoolOp} {es : List Expr} {pos : Pos} {T : BT} (h : HBs C sc k op es T) : HB C sc k (.BoolOp op es pos) T := by
  refine ⟨?_⟩; intro env A s m σ Q P E en ao R F q hP
  exact wpAny_isTrue_BoolOp (h.run env A s m σ Q P E en ao R F q hP)

/- values of and, or (of bools) -/
structure HVs (C : Cx) (sc : Scope) (k : Nat) (op : BoolOp) (es : List Expr) (T : ET) : Prop where
  run : ∀ (env : Env) (A : Around) (s : Shared) (m : Loc) (σ : View) (pos : Pos) (Q : V → View → Prop) (P : Value → Shared → Prop) (E : Value → Shared → Prop),
    EnvOk env sc → AOk C A k → RelG C σ s → FrameRel C env m σ s.heap → T m σ Q → Aft C σ s Q P → wpAny (model C.prog C.w) A (boolOp pos op (evalEach es env)) P E s
def eAnd (T U : ET) : ET := fun m σ Q => T m σ fun v σ' => ∃ b, v = .bool b ∧ if b then U m σ' Q else Q (.bool false) σ'
def eOr (T U : ET) : ET := fun m σ Q => T m σ fun v σ' => ∃ b, v = .bool b ∧ if b then Q (.bool true) σ' else U m σ' Q
/- subscripts -/
theorem HE.sub {op : O2} {value slice : Expr} {pos : Pos} {T U : ET} (hv : HE C sc k value T) (hi : HE C sc k slice U)
    (hop : Op2 C k (fun o i => getitemInPython o >>= fun b => subscripted slice b o i) op) : HE C sc k (.Subscript value slice pos) (eBin op T U) := by
  refine ⟨?_⟩; intro env A s m σ Q P E en ao R F q hP
  show wpAny _ A (do
    let o ← eval value env
    let i ← holding [o] (eval slice env)
    standAt pos
    let r ← subscripted slice (← getitemInPython o) o i
    letTemporaryGo value o r
    pure r) P E s
  refine wpAny_bind (wpAny_mono (two (P := P) (E := E) hop hv hi en ao R F q hP) (fun o s₁ h₁ => wpAny_bind (wpAny_holding (wpAny_mono h₁ (fun i s₂ h₂ => wpAny_bind (wpAny_standAt ?_)) fun _ _ x => x))) fun _ _ x => x)
  have h₃ : wpAny (model C.prog C.w) A ((getitemInPython o >>= fun b => subscripted slice b o i) >>= fun r => letTemporaryGo value o r >>= fun _ => pure r) P E s₂ :=
    wpAny_bind (wpAny_mono h₂ (fun r s₃ hr => wpAny_bind (wpAny_letTemporaryGo (wpAny_pure hr))) fun _ _ x => x)
  rwa [bind_assoc] at h₃
end
end Mine


end
noncomputable section
set_option autoImplicit false
namespace Mine
open PySem

/-- a short factor -/
def Short (i : Int) : Prop := i.natAbs < 2 ^ 64
theorem intBits_short {i : Int} (h : Short i) : Builtin.Int.intBits i ≤ 64 := by
  unfold Builtin.Int.intBits
  split
  · decide
  · rename_i hn
    have h0 : i.natAbs ≠ 0 := by
      intro e
      have : i = 0 := Int.natAbs_eq_zero.mp e
      simp [this] at hn
    have := (Nat.log2_lt h0).mpr h
    omega
theorem beq_dec {α : Type} [DecidableEq α] (a b : α) : (a == b) = decide (a = b) := by
  by_cases h : a = b
  · subst h; simp
  · simp [h]
section
variable {C : Cx} {k : Nat}
def opSub : O2
  | .int x, .int y, σ, Q => Q (.int (x - y)) σ
  | _, _, _, _ => False
theorem ok_sub : Op2 C k (binaryOp .Sub) opSub := by
  intro A s σ a b wa wb Q P E ao R va vb q hP
  cases a <;> first | exact q.elim | skip
  cases b <;> first | exact q.elim | skip
  cases va; cases vb
  exact _root_.PySem.P.sub_int (hP _ _ σ _ (.int _ _) (R.tok _) Step.refl q)
def opMod : O2
  | .int x, .int y, σ, Q => 0 < y ∧ Q (.int (x % y)) σ
  | _, _, _, _ => False
theorem ok_mod : Op2 C k (binaryOp .Mod) opMod := by
  intro A s σ a b wa wb Q P E ao R va vb q hP
  cases a <;> first | exact q.elim | skip
  cases b <;> first | exact q.elim | skip
  cases va; cases vb
  rename_i x t y u
  obtain ⟨hy, q⟩ := q
  refine PyProof.Rows.mod_int' (by omega) ?_
  rw [Int.fmod_eq_emod_of_nonneg _ (by omega)]
  exact hP _ _ σ _ (.int _ _) (R.tok _) Step.refl q
def opDiv : O2
  | .int x, .int y, σ, Q => (0 < y ∧ y < 1073741824) ∧ Q (.int (x / y)) σ
  | _, _, _, _ => False
theorem ok_div : Op2 C k (binaryOp .FloorDiv) opDiv := by
  intro A s σ a b wa wb Q P E ao R va vb q hP
  cases a <;> first | exact q.elim | skip
  cases b <;> first | exact q.elim | skip
  cases va; cases vb
  obtain ⟨hy, q⟩ := q
  refine PyProof.Rows.floordiv_int (by omega) ?_ (.inl (PyProof.noPylong_small (by omega)))
  rw [Int.fdiv_eq_ediv_of_nonneg _ (by omega)]
  exact hP _ _ σ _ (.int _ _) (R.tok _) Step.refl q
def opMul : O2
  | .int x, .int y, σ, Q => (Short x ∨ Short y) ∧ Q (.int (x * y)) σ
  | _, _, _, _ => False
theorem ok_mul : Op2 C k (binaryOp .Mult) opMul := by
  intro A s σ a b wa wb Q P E ao R va vb q hP
  cases a <;> first | exact q.elim | skip
  cases b <;> first | exact q.elim | skip
  cases va; cases vb
  refine _root_.PySem.P.mul_int (hP _ _ σ _ (.int _ _) (R.tok _) Step.refl q.2) (q.1.elim (fun h => .of_left (intBits_short h)) fun h => ?_)
  exact .of_right (intBits_short h)
def opLt : O2
  | .int x, .int y, σ, Q => Q (.bool (decide (x < y))) σ
  | _, _, _, _ => False
def opLe : O2
  | .int x, .int y, σ, Q => Q (.bool (decide (x ≤ y))) σ
  | _, _, _, _ => False
def opGt : O2
  | .int x, .int y, σ, Q => Q (.bool (decide (x > y))) σ
  | _, _, _, _ => False
def opGe : O2
  | .int x, .int y, σ, Q => Q (.bool (decide (x ≥ y))) σ
  | _, _, _, _ => False
theorem ok_lt : Op2 C k (compareOp .Lt) opLt := by
  intro A s σ a b wa wb Q P E ao R va vb q hP
  cases a <;> first | exact q.elim | skip
  cases b <;> first | exact q.elim | skip
  cases va; cases vb
  exact _root_.PySem.P.lt_int (hP _ _ σ _ (.bool _) R Step.refl q)
theorem ok_le : Op2 C k (compareOp .LtE) opLe := by
  intro A s σ a b wa wb Q P E ao R va vb q hP
  cases a <;> first | exact q.elim | skip
  cases b <;> first | exact q.elim | skip
  cases va; cases vb
  exact _root_.PySem.P.le_int (hP _ _ σ _ (.bool _) R Step.refl q)
theorem ok_gt : Op2 C k (compareOp .Gt) opGt := by
  intro A s σ a b wa wb Q P E ao R va vb q hP
  cases a <;> first | exact q.elim | skip
  cases b <;> first | exact q.elim | skip
  cases va; cases vb
  exact _root_.PySem.P.gt_int (hP _ _ σ _ (.bool _) R Step.refl q)
def opNeg : O1
  | .int x, σ, Q => Q (.int (-x)) σ
  | _, _, _ => False
/-- equality of plain values -/
def veq0 : V → V → Option Bool
  | .none, .none => some true
  | .none, .str _ => some false
  | .str _, .none => some false
  | .bool a, .bool b => some (a == b)
  | .int a, .int b => some (decide (a = b))
  | .str a, .str b => some (decide (a = b))
  | _, _ => none
def opEq0 : O2 := fun a b σ Q => ∃ r, veq0 a b = some r ∧ Q (.bool r) σ
def opNe0 : O2 := fun a b σ Q => ∃ r, veq0 a b = some r ∧ Q (.bool (!r)) σ
theorem ok_eq0 : Op2 C k (compareOp .Eq) opEq0 := by
  intro A s σ a b wa wb Q P E ao R va vb ⟨r, hr, q⟩ hP
  unfold veq0 at hr
  split at hr <;> cases hr <;> cases va <;> cases vb
  · exact PySem.EqNone.eq_none_none (hP _ _ σ _ (.bool _) R Step.refl q)
  · exact PySem.EqNone.eq_none_str (hP _ _ σ _ (.bool _) R Step.refl q)
  · exact PySem.EqNone.eq_str_none (hP _ _ σ _ (.bool _) R Step.refl q)
  · exact PyProof.Rows.eq_bool (hP _ _ σ _ (.bool _) R Step.refl q)
  · exact _root_.PySem.P.eq_int (by rw [beq_dec]; exact hP _ _ σ _ (.bool _) R Step.refl q)
  · exact PyProof.Rows.eq_str (hP _ _ σ _ (.bool _) R Step.refl (by rw [beq_dec]; exact q))
theorem ok_ne0 : Op2 C k (compareOp .NotEq) opNe0 := by
  intro A s σ a b wa wb Q P E ao R va vb ⟨r, hr, q⟩ hP
  unfold veq0 at hr
  split at hr <;> cases hr <;> cases va <;> cases vb
  · exact PySem.EqNone.ne_none_none (hP _ _ σ _ (.bool _) R Step.refl q)
  · exact PySem.EqNone.ne_none_str (hP _ _ σ _ (.bool _) R Step.refl q)
  · exact PySem.EqNone.ne_str_none (hP _ _ σ _ (.bool _) R Step.refl q)
  · exact PyProof.Rows.ne_bool (hP _ _ σ _ (.bool _) R Step.refl q)
  · exact _root_.PySem.P.ne_int (hP _ _ σ _ (.bool _) R Step.refl (by rw [bne, beq_dec]; exact q))
  · exact PyProof.Rows.ne_str (hP _ _ σ _ (.bool _) R Step.refl (by rw [bne, beq_dec]; exact q))

/- texts -/
def opInS : O2
  | .str y, .str x, σ, Q => Q (.bool (Txt.contains x y)) σ
  | _, _, _, _ => False
def opNotInS : O2
  | .str y, .str x, σ, Q => Q (.bool (!Txt.contains x y)) σ
  | _, _, _, _ => False
theorem ok_notInS : Op2 C k (compareOp .NotIn) opNotInS := by
  intro A s σ a b wa wb Q P E ao R va vb q hP
  cases a <;> first | exact q.elim | skip
  cases b <;> first | exact q.elim | skip
  cases va; cases vb
  exact SB.notContains (hP _ _ σ _ (.bool _) R Step.refl q)
end
end Mine


end
noncomputable section
set_option autoImplicit false
namespace Mine
open PySem

theorem ofString_inj {a b : String} (h : Str.ofString a = Str.ofString b) : a = b := by
  rw [Str.ofString_eq_toList, Str.ofString_eq_toList] at h
  have h1 : (a.toList.map Char.toNat) = (b.toList.map Char.toNat) := by
    have := congrArg (fun x : Str => x.cps.toList) h
    simpa using this
  have h2 : a.toList = b.toList := by
    refine (List.map_inj_right ?_).mp h1
    intro x y e
    exact Char.toNat_inj.mp e
  exact String.toList_inj.mp h2

inductive Fl where
  | next | brk | cont
  | ret (v : V)
abbrev ST := Loc → View → (Fl → Loc → View → Prop) → Prop
inductive FlRel (aS : Addr) (h : Heap) : Fl → Flow → Prop
  | next : FlRel aS h .next .next
  | brk : FlRel aS h .brk .brk
  | cont : FlRel aS h .cont .cont
  | ret {v : V} {w : Value} : VRel aS h v w → FlRel aS h (.ret v) (.ret w)
abbrev AftS (C : Cx) (env : Env) (σ : View) (s : Shared) (Q : Fl → Loc → View → Prop) (P : Flow → Shared → Prop) : Prop :=
  ∀ f g m' σ' s', FlRel C.aS s'.heap f g → RelG C σ' s' → FrameRel C env m' σ' s'.heap → Step (Own env) σ σ' s.heap s'.heap → Q f m' σ' → P g s'
structure HS (C : Cx) (sc : Scope) (k : Nat) (b : List Stmt) (T : ST) : Prop where
  run : ∀ (env : Env) (A : Around) (s : Shared) (m : Loc) (σ : View) (Q : Fl → Loc → View → Prop) (P : Flow → Shared → Prop) (E : Value → Shared → Prop),
    EnvOk env sc → AOk C A k → RelG C σ s → FrameRel C env m σ s.heap → T m σ Q → AftS C env σ s Q P → wpAny (model C.prog C.w) A (execs b env) P E s
structure HS1 (C : Cx) (sc : Scope) (k : Nat) (b : Stmt) (T : ST) : Prop where
  run : ∀ (env : Env) (A : Around) (s : Shared) (m : Loc) (σ : View) (Q : Fl → Loc → View → Prop) (P : Flow → Shared → Prop) (E : Value → Shared → Prop),
    EnvOk env sc → AOk C A k → RelG C σ s → FrameRel C env m σ s.heap → T m σ Q → AftS C env σ s Q P → wpAny (model C.prog C.w) A (exec b env) P E s

section
variable {C : Cx} {sc : Scope} {k : Nat}
/-- own things are no tuples -/
theorem FrameRel.ownT {env : Env} {m : Loc} {σ : View} {h : Heap} (F : FrameRel C env m σ h) : ∀ b o, Own env b → h.get? b = some o → ¬ IsT o := by
  rintro b o (rfl | ⟨n, hn⟩) ho ⟨_, it, n', hd⟩
  · obtain ⟨mm, ⟨o', es, ep, ho', hd', _⟩, _⟩ := F.ns
    rw [ho] at ho'; cases ho'; rw [hd] at hd'; cases hd'
  · obtain ⟨v, o', ho', hd'⟩ := F.cells n b hn
    rw [ho] at ho'; cases ho'; rw [hd] at hd'; cases hd'
theorem Step.tupsO {env : Env} {m : Loc} {σ σ' : View} {s : Shared} {h' : Heap} (F : FrameRel C env m σ s.heap) (R : RelG C σ s) (S : Step (Own env) σ σ' s.heap h') : TupKeep s.heap h' := S.tups R F.ownT
theorem Step.own {env : Env} {σ σ' : View} {h h' : Heap} (S : Step no σ σ' h h') : Step (Own env) σ σ' h h' := S.mono fun _ _ _ z => z.elim

def sNil : ST := fun m σ Q => Q .next m σ
def sSeq (T U : ST) : ST := fun m σ Q => T m σ fun f m₁ σ₁ => match f with
  | .next => U m₁ σ₁ Q
  | f => Q f m₁ σ₁
theorem HS.nil : HS C sc k [] sNil := ⟨fun _ _ s m σ _ _ _ _ _ R F q hP => wpAny_execs_nil (hP .next .next m σ s .next R F Step.refl q)⟩
theorem HS.cons {st : Stmt} {b : List Stmt} {T U : ST} (h1 : HS1 C sc k st T) (h2 : HS C sc k b U) : HS C sc k (st :: b) (sSeq T U) := by
  refine ⟨?_⟩; intro env A s m σ Q P E en ao R F q hP
  refine wpAny_execs_cons (h1.run env A s m σ _ _ E en ao R F q fun f g m₁ σ₁ s₁ hf R₁ F₁ S₁ q₁ => ?_)
  cases hf with
  | next => exact h2.run env A s₁ m₁ σ₁ Q P E en ao R₁ F₁ q₁ fun f g m₂ σ₂ s₂ hf R₂ F₂ S₂ q₂ => hP f g m₂ σ₂ s₂ hf R₂ F₂ (S₁.trans S₂) q₂
  | brk => exact hP _ _ m₁ σ₁ s₁ .brk R₁ F₁ S₁ q₁
  | cont => exact hP _ _ m₁ σ₁ s₁ .cont R₁ F₁ S₁ q₁
  | ret hv => exact hP _ _ m₁ σ₁ s₁ (.ret hv) R₁ F₁ S₁ q₁

/-- storing into a name of the frame -/
theorem store_local {env : Env} {A : Around} {s : Shared} {m : Loc} {σ : View} {x : String} {v : V} {w : Value} {P : Unit → Shared → Prop} {E : Value → Shared → Prop} (en : EnvOk env sc) (R : RelG C σ s) (F : FrameRel C env m σ s.heap)
    (hl : sc.names.lookup (Str.ofString x) = some .local) (hv : VRel C.aS s.heap v w)
    (h : ∀ s', RelG C σ s' → FrameRel C env (put m x v) σ s'.heap → Step (fun b => b = env.locals) σ σ s.heap s'.heap → P () s') : wpAny (model C.prog C.w) A (storeName env (Str.ofString x) w) P E s := by
  obtain ⟨mm, hn, hm⟩ := F.ns
  have kl := en.of hl
  refine wpAny_storeName_local kl hn (fun h' hn' hs' => ?_) (by rw [en.k]; rfl)
  obtain ⟨oL, esL, epL, hoL, hdL, _⟩ := id hn
  have kt : TupKeep s.heap h' := fun b o e ht => (hs'.2 b (by rintro rfl; rw [hoL] at e; cases e; obtain ⟨_, _, _, hd⟩ := ht; rw [hdL] at hd; cases hd)).trans e
  have kc : ∀ c v, s.heap.IsCell c v → h'.IsCell c v := fun c v ⟨o, ho, hd⟩ => ⟨o, (hs'.2 c (by rintro rfl; rw [hoL] at ho; cases ho; rw [hdL] at hd; cases hd)).trans ho, hd⟩
  refine h _ ?_ ?_ ?_
  · refine ⟨let ⟨_, _, d, e⟩ := R.rest; ⟨h', s.toks + 1, d, by rw [e]⟩, fun b o e => ?_, fun a o e => ?_, R.apart⟩
    · exact (hs'.2 b (by rintro rfl; rw [F.baseL] at e; cases e)).trans (R.base b o e)
    · exact (R.view a o e).keep kt fun o' e' => (hs'.2 a (by rintro rfl; rw [F.sepL] at e; cases e)).trans e'
  · refine ⟨⟨_, hn', fun y u e ky => ?_⟩, fun y u e => ?_, fun n c e => ?_, F.sepL, F.baseL, F.baseC, F.dist, F.has⟩
    · by_cases hy : y = x
      · subst hy; rw [put_same] at e; cases e; exact ⟨w, by simp, hv.keep kt⟩
      · rw [put_ne hy] at e
        obtain ⟨w', h1, h2⟩ := hm y u e ky
        exact ⟨w', by simp [show ¬ Str.ofString y = Str.ofString x from fun z => hy (ofString_inj z), h1], h2.keep kt⟩
    · by_cases hy : y = x
      · subst hy; exact .inl kl
      · rw [put_ne hy] at e
        rcases F.cel y u e with z | ⟨z, c, w', h1, h2, h3⟩
        · exact .inl z
        · exact .inr ⟨z, c, w', h1, kc _ _ h2, h3.keep kt⟩
    · obtain ⟨v, hv⟩ := F.cells n c e; exact ⟨v, kc _ _ hv⟩
  · exact .of (fun b o e n q => (hs'.2 b q).trans e) (Nat.le_of_eq hs'.1.symm) fun _ a b => absurd a b
theorem store_cell {env : Env} {A : Around} {s : Shared} {m : Loc} {σ : View} {x : String} {v : V} {w : Value} {P : Unit → Shared → Prop} {E : Value → Shared → Prop} (en : EnvOk env sc) (R : RelG C σ s) (F : FrameRel C env m σ s.heap)
    (hl : sc.names.lookup (Str.ofString x) = some .cell) (hv : VRel C.aS s.heap v w)
    (h : ∀ s', RelG C σ s' → FrameRel C env (put m x v) σ s'.heap → Step (Own env) σ σ s.heap s'.heap → P () s') : wpAny (model C.prog C.w) A (storeName env (Str.ofString x) w) P E s := by
  have kl := en.of hl
  obtain ⟨c₀, hc₀⟩ := F.has _ (.inl kl)
  obtain ⟨v₀, hv₀⟩ := F.cells _ _ hc₀
  refine wpAny_storeName_cell en.k kl hc₀ hv₀ fun h' hc' hs' => ?_
  obtain ⟨oc, hoc, hdc⟩ := id hv₀
  have kt : TupKeep s.heap h' := fun b o e ht => (hs'.2 b (by rintro rfl; rw [hoc] at e; cases e; obtain ⟨_, _, _, hd⟩ := ht; rw [hdc] at hd; cases hd)).trans e
  have kc : ∀ c v, c ≠ c₀ → s.heap.IsCell c v → h'.IsCell c v := fun c v hne ⟨o, ho, hd⟩ => ⟨o, (hs'.2 c hne).trans ho, hd⟩
  obtain ⟨mm, hn, hm⟩ := F.ns
  have hL : env.locals ≠ c₀ := by
    rintro e
    obtain ⟨oL, _, _, hoL, hdL, _⟩ := hn
    rw [e, hoc] at hoL; cases hoL; rw [hdc] at hdL; cases hdL
  have hσ : σ c₀ = Option.none := by
    cases z : σ c₀ with
    | none => rfl
    | some o' => obtain ⟨ob, h1, _, h3⟩ := (R.view c₀ o' z).shape; rw [hoc] at h1; cases h1; exact absurd hdc (h3 _)
  refine h _ ?_ ?_ ?_
  · refine ⟨let ⟨_, _, d, e⟩ := R.rest; ⟨h', s.toks, d, by rw [e]⟩, fun b o e => ?_, fun a o e => ?_, R.apart⟩
    · exact (hs'.2 b (by rintro rfl; rw [F.baseC _ _ hc₀] at e; cases e)).trans (R.base b o e)
    · exact (R.view a o e).keep kt fun o' e' => (hs'.2 a (by rintro rfl; rw [hσ] at e; cases e)).trans e'
  · refine ⟨⟨mm, hn.sameBut hs' hL, fun y u e ky => ?_⟩, fun y u e => ?_, fun n c e => ?_, F.sepL, F.baseL, F.baseC, F.dist, F.has⟩
    · have hy : y ≠ x := by rintro rfl; rw [kl] at ky; cases ky
      rw [put_ne hy] at e
      obtain ⟨w', h1, h2⟩ := hm y u e ky
      exact ⟨w', h1, h2.keep kt⟩
    · by_cases hy : y = x
      · subst hy; rw [put_same] at e; cases e; exact .inr ⟨.inl kl, c₀, w, hc₀, hc', hv.keep kt⟩
      · rw [put_ne hy] at e
        rcases F.cel y u e with z | ⟨z, c, w', h1, h2, h3⟩
        · exact .inl z
        · exact .inr ⟨z, c, w', h1, kc _ _ (by rintro rfl; exact hy (ofString_inj (name_of_addr F.dist (mem_of_lookup h1) (mem_of_lookup hc₀)))) h2, h3.keep kt⟩
    · by_cases hc : c = c₀
      · subst hc; exact ⟨_, hc'⟩
      · obtain ⟨v, hv⟩ := F.cells n c e; exact ⟨v, kc _ _ hc hv⟩
  · exact .of (fun b o e n q => (hs'.2 b fun z => q (.inr ⟨_, z ▸ hc₀⟩)).trans e) (Nat.le_of_eq hs'.1.symm) fun _ a b => absurd a b
/-- a name of the frame that may be stored into -/
def Var (sc : Scope) (x : String) : Prop := sc.names.lookup (Str.ofString x) = some .local ∨ sc.names.lookup (Str.ofString x) = some .cell
theorem store {env : Env} {A : Around} {s : Shared} {m : Loc} {σ : View} {x : String} {v : V} {w : Value} {P : Unit → Shared → Prop} {E : Value → Shared → Prop} (en : EnvOk env sc) (R : RelG C σ s) (F : FrameRel C env m σ s.heap)
    (hl : Var sc x) (hv : VRel C.aS s.heap v w)
    (h : ∀ s', RelG C σ s' → FrameRel C env (put m x v) σ s'.heap → Step (Own env) σ σ s.heap s'.heap → P () s') : wpAny (model C.prog C.w) A (storeName env (Str.ofString x) w) P E s :=
  hl.elim (fun z => store_local en R F z hv fun s' R' F' S' => h s' R' F' (S'.mono fun _ _ _ q => .inl q)) fun z => store_cell en R F z hv h

def sSet (x : String) (T : ET) : ST := fun m σ Q => T m σ fun v σ' => Q .next (put m x v) σ'
theorem HS1.set {x : String} {p pos : Pos} {value : Expr} {T : ET} (hx : Var sc x) (he : HE C sc k value T) (hs : ∀ env, EnvOk env sc → swapsWith value (some (.Name (Str.ofString x) p)) pos.line env = pure false) : HS1 C sc k (.Assign [.Name (Str.ofString x) p] value pos) (sSet x T) := by
  refine ⟨?_⟩; intro env A s m σ Q P E en ao R F q hP
  refine wpAny_Assign_Name (he.run env A s m σ _ _ E en ao R F q fun v w σ₁ s₁ hv R₁ S₁ q₁ => ?_) (hs env en)
  exact store en R₁ (F.step R S₁) hx hv fun s₂ R₂ F₂ S₂ => hP .next .next _ σ₁ s₂ .next R₂ F₂ ((S₁.own).trans S₂) q₁
def sExpr (T : ET) : ST := fun m σ Q => T m σ fun _ σ' => Q .next m σ'
theorem HS1.expr {pos : Pos} {value : Expr} {T : ET} (he : HE C sc k value T) (hs : ∀ env, EnvOk env sc → swapsWith value Option.none pos.line env = pure false) : HS1 C sc k (.Expr value pos) (sExpr T) := by
  refine ⟨?_⟩; intro env A s m σ Q P E en ao R F q hP
  have hi : interactive env = false := by unfold interactive; rw [en.k]; rfl
  rw [exec_Expr env value pos hi (hs env en)]
  refine wpAny_bind (wpAny_standAt (wpAny_bind (he.run env A s m σ _ _ E en ao R F q fun v w σ₁ s₁ hv R₁ S₁ q₁ => ?_)))
  exact wpAny_dropValue (hP .next .next m σ₁ s₁ .next R₁ (F.step R S₁) S₁.own q₁)
def sIf (B : BT) (T U : ST) : ST := fun m σ Q => B m σ fun b σ' => if b then T m σ' Q else U m σ' Q
theorem HS1.ite {pos : Pos} {test : Expr} {a b : List Stmt} {B : BT} {T U : ST} (hb : HB C sc k test B) (h1 : HS C sc k a T) (h2 : HS C sc k b U) : HS1 C sc k (.If test a b pos) (sIf B T U) := by
  refine ⟨?_⟩; intro env A s m σ Q P E en ao R F q hP
  refine wpAny_If (hb.run env A s m σ _ _ E en ao R F q fun b σ₁ s₁ R₁ S₁ q₁ => ?_)
  cases b with
  | true => simp only [if_true] at q₁ ⊢; exact h1.run env A s₁ m σ₁ Q P E en ao R₁ (F.step R S₁) q₁ fun f g m₂ σ₂ s₂ hf R₂ F₂ S₂ q₂ => hP f g m₂ σ₂ s₂ hf R₂ F₂ (S₁.own.trans S₂) q₂
  | false => simp only [Bool.false_eq_true, if_false] at q₁ ⊢; exact h2.run env A s₁ m σ₁ Q P E en ao R₁ (F.step R S₁) q₁ fun f g m₂ σ₂ s₂ hf R₂ F₂ S₂ q₂ => hP f g m₂ σ₂ s₂ hf R₂ F₂ (S₁.own.trans S₂) q₂
def sRet (T : ET) : ST := fun m σ Q => T m σ fun v σ' => Q (.ret v) m σ'
theorem HS1.ret {pos : Pos} {value : Expr} {T : ET} (he : HE C sc k value T) : HS1 C sc k (.Return (some value) pos) (sRet T) := by
  refine ⟨?_⟩; intro env A s m σ Q P E en ao R F q hP
  exact wpAny_Return_some (he.run env A s m σ _ _ E en ao R F q fun v w σ₁ s₁ hv R₁ S₁ q₁ => hP (.ret v) (.ret w) m σ₁ s₁ (.ret hv) R₁ (F.step R S₁) S₁.own q₁)
def sCont : ST := fun m σ Q => Q .cont m σ
end
end Mine


end
noncomputable section
set_option autoImplicit false
namespace Mine
open PySem

abbrev Spec := List V → View → (V → View → Prop) → Prop
/-- the function at f answers by its contract -/
def FnSound (C : Cx) (j : Nat) (f : Addr) (spec : Spec) : Prop :=
  ∀ (A : Around) (s : Shared) (σ : View) (vs : List V) (ws : List Value) (Q : V → View → Prop) (P : Value → Shared → Prop) (E : Value → Shared → Prop),
    AOk C A (j + 1) → RelG C σ s → VRels C.aS s.heap vs ws → spec vs σ Q → Aft C σ s Q P → codeAny (model C.prog C.w) A (.call (.ref f) ⟨ws, []⟩) (fun r s' => match r with | .ok (.ret v) => P v s' | .ok _ => False | .error e => E e s') s

def none' : Loc := fun _ => Option.none
def bindM : List String → List V → Loc → Loc
  | x :: xs, v :: vs, m => bindM xs vs (put m x v)
  | _, _, m => m

theorem cellsFrom_has {x : Str} : ∀ (names : List (Str × NameKind)) (n : Nat) (acc : List (Str × Addr)), (names.lookup x = some .cell ∨ ∃ c, acc.lookup x = some c) → ∃ c, (cellsFrom n names acc).lookup x = some c
  | [], _, _, h => h.elim (fun e => by cases e) id
  | (y, q) :: r, n, acc, h => by
    unfold cellsFrom
    by_cases hq : q = .cell
    · rw [if_pos (by simp [hq])]
      refine cellsFrom_has r _ _ ?_
      by_cases hy : x = y
      · exact .inr ⟨n, by simp [hy]⟩
      · have hb : (x == y) = false := by simp [hy]
        refine h.imp (fun e => ?_) fun ⟨c, e⟩ => ⟨c, ?_⟩
        · rw [List.lookup_cons, hb] at e; exact e
        · rw [List.lookup_cons, hb]; exact e
    · rw [if_neg (by simpa using hq)]
      refine cellsFrom_has r _ _ ?_
      by_cases hy : x = y
      · refine .inr (h.elim (fun e => ?_) id)
        rw [List.lookup_cons, show (x == y) = true by simp [hy]] at e
        exact absurd (Option.some.inj e) hq
      · have hb : (x == y) = false := by simp [hy]
        refine h.imp (fun e => ?_) id
        rw [List.lookup_cons, hb] at e; exact e

section
variable {C : Cx}
/-- the parameters are bound -/
theorem bound_vars {h : Heap} (kindOf : Str → Option NameKind) : ∀ (xs : List String) (vs : List V) (ws : List Value) (m : Loc) (mL mC : Str → Option Value),
    (∀ x ∈ xs, kindOf (Str.ofString x) = some .local ∨ kindOf (Str.ofString x) = some .cell) → VRels C.aS h vs ws →
    (∀ x v, m x = some v → (kindOf (Str.ofString x) = some .local ∧ ∃ w, mL (Str.ofString x) = some w ∧ VRel C.aS h v w) ∨ (kindOf (Str.ofString x) = some .cell ∧ ∃ w, mC (Str.ofString x) = some w ∧ VRel C.aS h v w)) →
    ∀ x v, bindM xs vs m x = some v → (kindOf (Str.ofString x) = some .local ∧ ∃ w, bindL kindOf ((xs.map Str.ofString).zip ws) mL (Str.ofString x) = some w ∧ VRel C.aS h v w) ∨
      (kindOf (Str.ofString x) = some .cell ∧ ∃ w, bindC kindOf ((xs.map Str.ofString).zip ws) mC (Str.ofString x) = some w ∧ VRel C.aS h v w)
  | [], _, _, _, _, _, _, _, hm => by simpa [bindM, bindL, bindC] using hm
  | x :: xs, [], _, _, _, _, _, .nil, hm => by simpa [bindM, bindL, bindC] using hm
  | x :: xs, v :: vs, w :: ws, m, mL, mC, hk, .cons hv hvs, hm => by
    simp only [bindM, List.map_cons, List.zip_cons_cons, bindL, bindC]
    refine bound_vars kindOf xs vs ws _ _ _ (fun y hy => hk y (.tail _ hy)) hvs fun y u e => ?_
    by_cases hy : y = x
    · subst hy
      rw [put_same] at e; cases e
      rcases hk y (.head _) with z | z
      · exact .inl ⟨z, w, by simp [z], hv⟩
      · exact .inr ⟨z, w, by simp [z], hv⟩
    · rw [put_ne hy] at e
      have hne : ¬ Str.ofString y = Str.ofString x := fun z => hy (ofString_inj z)
      rcases hm y u e with ⟨z, w', h1, h2⟩ | ⟨z, w', h1, h2⟩
      · refine .inl ⟨z, w', ?_, h2⟩
        split <;> simp [hne, h1]
      · refine .inr ⟨z, w', ?_, h2⟩
        split <;> simp [hne, h1]

/-- a def of the text answers by what its body's transformer says -/
theorem FnSound.mk (O : C.Ok) {f : Addr} {o : Obj} {fd : FuncData} {body : List Stmt} {xs : List String} {sc : Scope} {j : Nat} {spec : Spec} {T : ST}
    (ho : C.hB.get? f = some o) (hd : o.data = .func fd) (hcd : C.hB.CodeRec fd.code fd.qualname) (hb : fd.body = .stmts body) (hsc : fd.scope = sc) (hcl : fd.closure = []) (hg : fd.globals = mainGlobals) (hbi : fd.builtins = builtinsNs)
    (hk : sc.kind = .function) (hfr : ∀ p ∈ sc.names, p.2 ≠ .free) (hco : sc.isCoroutine = false) (hgen : sc.isGenerator = false)
    (hbind : ∀ ws : List Value, ws.length = xs.length → bindArgs fd ⟨ws, []⟩ = pure ((xs.map Str.ofString).zip ws))
    (hloc : ∀ x ∈ xs, sc.names.lookup (Str.ofString x) = some .local ∨ sc.names.lookup (Str.ofString x) = some .cell)
    (hT : HS C sc j body T)
    (hspec : ∀ vs σ Q, spec vs σ Q → vs.length = xs.length ∧ T (bindM xs vs none') σ fun f _ σ' => match f with | .ret v => Q v σ' | .next => Q .none σ' | _ => False) : FnSound C j f spec := by
  intro A s σ vs ws Q P E ao R hvs hs hP
  subst hsc
  obtain ⟨hlen, q⟩ := hspec vs σ Q hs
  have hlw : ws.length = xs.length := by rw [← hvs.length]; exact hlen
  refine (codeAny_call_cells (fd := fd) (body := body) (binds := (xs.map Str.ofString).zip ws) (by have := ao.depth; omega) (R.base _ _ ho) hd (O.nolimit.keeps R.base) (hcd.keeps R.base) hb (hbind ws hlw) hcl ?_ ?_ hco hgen hk)
  · intro x hx
    have : x.1 ∈ xs.map Str.ofString := (List.of_mem_zip (a := x.1) (b := x.2) hx).1
    obtain ⟨y, hy, e⟩ := List.mem_map.mp this
    rw [← e]
    refine (hloc y hy).imp id fun z => ⟨z, ?_⟩
    obtain ⟨c, hc⟩ := cellsFrom_has (x := Str.ofString y) fd.scope.names (s.heap.objs.size + 1) [] (.inl z)
    rw [hc]; rfl
  · intro s₁ x
    generalize henv : callEnvC fd s.heap.objs.size f = env at x ⊢
    have eS : env.scope = fd.scope := by rw [← henv]; rfl
    have eL : env.locals = s.heap.objs.size := by rw [← henv]; rfl
    have eC : env.cells = cellsFrom (s.heap.objs.size + 1) fd.scope.names [] := by rw [← henv]; rfl
    have en : EnvOk env fd.scope := ⟨eS, hk, by rw [← henv]; exact hg, by rw [← henv]; exact hbi⟩
    obtain ⟨h₁, tk₁, e₁⟩ := x.toInCall.same
    have keep := x.toInCall.keep
    have R₁ : RelG C σ s₁ := by
      rw [e₁]
      exact R.grow (fun b o e => by have := keep b o e; rw [e₁] at this; exact this)
    have hz : s.heap.objs.size ≤ s₁.heap.objs.size := Nat.le_of_lt (by have := x.toInCall.ns.lt; rw [eL] at this; exact this)
    have kt : TupKeep s.heap s₁.heap := fun b o e _ => keep b o e
    have vars := bound_vars (C := C) (h := s₁.heap) env.kindOf xs vs ws none' (fun _ => Option.none) (fun _ => Option.none)
      (fun y hy => by unfold Env.kindOf; rw [eS]; exact hloc y hy) (hvs.keep kt) (fun _ _ e => by cases e)
    have lookupC : ∀ n, env.kindOf n = some .cell → ∃ c, env.cells.lookup n = some c := fun n hn => by
      rw [eC]; exact cellsFrom_has _ _ _ (.inl (by unfold Env.kindOf at hn; rw [eS] at hn; exact hn))
    have lookupF : ∀ n, env.kindOf n = some .cell ∨ env.kindOf n = some .free → ∃ c, env.cells.lookup n = some c := fun n hn => hn.elim (lookupC n) fun z => by
      unfold Env.kindOf at z; rw [eS] at z; exact absurd rfl (hfr _ (mem_of_lookup z))
    have fresh : ∀ c, s.heap.objs.size ≤ c → C.hB.get? c = Option.none := fun c hc => R.baseNone (get_none_of_size hc)
    have F₁ : FrameRel C env (bindM xs vs none') σ s₁.heap := by
      refine ⟨⟨_, x.toInCall.ns, fun y v e ky => ?_⟩, fun y v e => ?_, fun n c hc => ?_, R.freshNone (get_none_of_size (Nat.le_of_eq eL.symm)), fresh _ (Nat.le_of_eq eL.symm), fun n c hc => ?_, x.apart, lookupF⟩
      · rcases vars y v e with ⟨_, w, h1, h2⟩ | ⟨z, _⟩
        · exact ⟨w, h1, h2⟩
        · rw [z] at ky; cases ky
      · rcases vars y v e with ⟨z, _⟩ | ⟨z, w, h1, h2⟩
        · exact .inl z
        · obtain ⟨c, hc⟩ := lookupC _ z
          exact .inr ⟨.inl z, c, w, hc, h1 ▸ x.cell _ c hc, h2⟩
      · exact ⟨_, x.cell n c hc⟩
      · exact fresh c (Nat.le_of_lt (by have := x.above n c (mem_of_lookup hc); rw [eL] at this; exact this))
    refine hT.run env _ s₁ _ σ _ _ _ en ⟨by show A.handled = _; exact ao.handled, by show A.depth + 1 + 3 * j + 3 < _; have := ao.depth; omega, by show A.units + 3 + 10 * j + 20 < _; have := ao.units; omega⟩ R₁ F₁ q fun fl g m' σ' s' hf R' F' S' q' => ?_
    have S₀ : Step no σ σ' s.heap s'.heap :=
      ⟨fun b o e n _ => S'.keepL b o (keep b o e) n (fun z => by
          have hlt := Heap.lt_size e
          rcases z with z | ⟨n', z⟩
          · rw [z, eL] at hlt; exact Nat.lt_irrefl _ hlt
          · have := x.above n' b (mem_of_lookup z); rw [eL] at this; exact Nat.lt_irrefl _ (Nat.lt_trans hlt this)),
        Nat.le_trans hz S'.size, fun b n m => Nat.le_trans hz (S'.new b n m)⟩
    cases hf with
    | next => exact hP .none .none σ' s' .none R' S₀ q'
    | ret hv => exact hP _ _ σ' s' hv R' S₀ q'
    | brk => exact q'.elim
    | cont => exact q'.elim
end
end Mine


end
noncomputable section
set_option autoImplicit false
namespace Mine
open PySem

section
variable {C : Cx} {sc : Scope} {k : Nat}
def plainArgs (es : List Expr) : Bool := es.all notStar
theorem starEach_any {es : List Expr} {env : Env} {pos : Pos} (h : plainArgs es = true) : (backTo pos (starEach es env)).any (·.1) = false := by
  induction es with
  | nil => rfl
  | cons e r ih =>
    simp only [plainArgs, List.all_cons, Bool.and_eq_true] at h
    rw [starEach_plain h.1]
    show ((false, _) :: backTo pos (starEach r env)).any (·.1) = false
    rw [List.any_cons, ih h.2]; rfl
theorem evalArgs_of {f : Value} {es : List Expr} {env : Env} {pos : Pos} {M : Model} {A : Around} {s : Shared} {Q : Args → Shared → Prop} {E : Value → Shared → Prop} (h : plainArgs es = true)
    (hs : wpAny M A (spliced (backTo pos (starEach es env))) (fun vs s' => Q ⟨vs, []⟩ s') E s) : wpAny M A (evalArgs f true (backTo pos (starEach es env)) []) Q E s := by
  cases es with
  | nil =>
    unfold evalArgs
    show wpAny M A (spliced [] >>= _) Q E s
    refine wpAny_bind (wpAny_mono hs (fun vs s' h' => ?_) fun _ _ x => x)
    refine wpAny_holding ?_
    exact wpAny_bind (wpAny_pure (wpAny_bind (wpAny_pure (wpAny_pure h'))))
  | cons e r =>
    simp only [plainArgs, List.all_cons, Bool.and_eq_true] at h
    rw [starEach_plain h.1] at hs ⊢
    exact Calls.evalArgs_plain hs
/-- the call of a def of the text -/
def eCall (spec : Spec) (L : LT) : ET := fun m σ Q => L m σ fun vs σ' => spec vs σ' Q
theorem HE.call (O : C.Ok) {f : String} {a : Addr} {o : Obj} {fd : FuncData} {np pos : Pos} {es : List Expr} {L : LT} {spec : Spec} {j : Nat} (hf : FnSound C j a spec) (hj : j < k)
    (hn : sc.names.lookup (Str.ofString f) = some .globalImplicit) (hg : C.mg (Str.ofString f) = some (.ref a)) (ho : C.hB.get? a = some o) (hd : o.data = .func fd) (hdb : (Str.ofString f == ("__debug__" : Str)) = false)
    (hl : HL C sc k es L) (hp : plainArgs es = true) : HE C sc k (.Call (.Name (Str.ofString f) np) es [] pos) (eCall spec L) := by
  refine ⟨?_⟩; intro env A s m σ Q P E en ao R F q hP
  refine wpAny_Call_NameR (Calls.Name_function_global en.k (en.of hn) (Calls.loadGlobal_global (mg := C.mg) (by rw [en.globals]; exact O.g.keeps R.base) hg ?_) hdb)
  refine Calls.callWith_function (o := o) (fd := fd) (evalArgs_of hp (hl.run env A s m σ pos _ _ E en ao R F q fun vs ws σ₁ s₁ hv R₁ S₁ q₁ => ⟨⟨R₁.base _ _ ho, hd⟩, ?_⟩))
  exact wpAny_call (hf A s₁ σ₁ vs ws Q P E (ao.le hj) R₁ hv q₁ fun v w σ' s' hv' R' S' q' => hP v w σ' s' hv' R' (S₁.trans S') q')
/-- a built-in function or a built-in type by name -/
def OpN (C : Cx) (k : Nat) (t : List Value → Sem Value) (op : Spec) : Prop :=
  ∀ (A : Around) (s : Shared) (σ : View) (vs : List V) (ws : List Value) (Q : V → View → Prop) (P E : Value → Shared → Prop), AOk C A k → RelG C σ s → VRels C.aS s.heap vs ws → op vs σ Q → Aft C σ s Q P →
    wpAny (model C.prog C.w) A (t ws) P E s
theorem HE.builtin (O : C.Ok) {f : String} {id : String} {np pos : Pos} {es : List Expr} {L : LT} {op : Spec} (hop : OpN C k (fun ws => PySem.call (.builtin id) ws) op)
    (hn : sc.names.lookup (Str.ofString f) = some .globalImplicit) (hg : C.mg (Str.ofString f) = Option.none) (hb : C.mb (Str.ofString f) = some (.builtin id)) (hdb : (Str.ofString f == ("__debug__" : Str)) = false)
    (hl : HL C sc k es L) (hp : plainArgs es = true) : HE C sc k (.Call (.Name (Str.ofString f) np) es [] pos) (eCall op L) := by
  refine ⟨?_⟩; intro env A s m σ Q P E en ao R F q hP
  refine wpAny_Call_NameR (Calls.Name_function_global en.k (en.of hn) (Calls.loadGlobal_builtin (mg := C.mg) (mb := C.mb) (by rw [en.globals]; exact O.g.keeps R.base) hg (by rw [en.builtins]; exact O.b.keeps R.base) hb ?_) hdb)
  refine Calls.callWith_builtin (starEach_any hp) (evalArgs_of hp (hl.run env A s m σ pos _ _ E en ao R F q fun vs ws σ₁ s₁ hv R₁ S₁ q₁ => ?_))
  exact hop A s₁ σ₁ vs ws Q P E ao R₁ hv q₁ fun v w σ' s' hv' R' S' q' => hP v w σ' s' hv' R' (S₁.trans S') q'
theorem HE.btype (O : C.Ok) {f : String} {id : String} {np pos : Pos} {es : List Expr} {L : LT} {op : Spec} (hop : OpN C k (fun ws => PySem.call (.type id) ws) op)
    (hn : sc.names.lookup (Str.ofString f) = some .globalImplicit) (hg : C.mg (Str.ofString f) = Option.none) (hb : C.mb (Str.ofString f) = some (.type id)) (hdb : (Str.ofString f == ("__debug__" : Str)) = false)
    (hl : HL C sc k es L) (hp : plainArgs es = true) : HE C sc k (.Call (.Name (Str.ofString f) np) es [] pos) (eCall op L) := by
  refine ⟨?_⟩; intro env A s m σ Q P E en ao R F q hP
  refine wpAny_Call_NameR (Calls.Name_function_global en.k (en.of hn) (Calls.loadGlobal_builtin (mg := C.mg) (mb := C.mb) (by rw [en.globals]; exact O.g.keeps R.base) hg (by rw [en.builtins]; exact O.b.keeps R.base) hb ?_) hdb)
  refine callWith_type (starEach_any hp) (evalArgs_of hp (hl.run env A s m σ pos _ _ E en ao R F q fun vs ws σ₁ s₁ hv R₁ S₁ q₁ => ?_))
  exact hop A s₁ σ₁ vs ws Q P E ao R₁ hv q₁ fun v w σ' s' hv' R' S' q' => hP v w σ' s' hv' R' (S₁.trans S') q'

/- iteration -/
structure It (C : Cx) (k : Nat) (I : Addr) (items : List V) (inv : View → Prop) (St : Nat → Heap → Prop) : Prop where
  frame : ∀ i h h', St i h → (∀ o, h.get? I = some o → h'.get? I = some o) → TupKeep h h' → St i h'
  live : ∀ i h, St i h → ∃ o, h.get? I = some o ∧ ¬ IsT o ∧ ∀ v, o.data ≠ .cell v
  flds : ∀ i h, St i h → ∀ o, h.get? I = some o → ∀ es ep, o.data ≠ .dict es ep
  next : ∀ (A : Around) (σ : View) (s : Shared) (i : Nat) (v : V) (Q : Option Value → Shared → Prop) (E : Value → Shared → Prop), AOk C A k → RelG C σ s → inv σ → St i s.heap → items[i]? = some v →
    (∀ w h' tk, VRel C.aS h' v w → St (i + 1) h' → Heap.ExtBut I s.heap h' → Q (some w) { s with heap := h', toks := tk }) → wpAny (model C.prog C.w) A (pyNext (.ref I)) Q E s
  done : ∀ (A : Around) (σ : View) (s : Shared) (Q : Option Value → Shared → Prop) (E : Value → Shared → Prop), AOk C A k → RelG C σ s → inv σ → St items.length s.heap →
    (∀ h' tk, Heap.ExtBut I s.heap h' → Q Option.none { s with heap := h', toks := tk }) → wpAny (model C.prog C.w) A (pyNext (.ref I)) Q E s
  self : ∀ (A : Around) (s : Shared) (i : Nat) (Q : Value → Shared → Prop) (E : Value → Shared → Prop), St i s.heap → Q (.ref I) s → wpAny (model C.prog C.w) A (pyIter (.ref I)) Q E s
  own : ∀ (A : Around) (s : Shared) (i : Nat) (t : Expr) (w : Value) (Q : Unit → Shared → Prop) (E : Value → Shared → Prop), St i s.heap → Q () s → wpAny (model C.prog C.w) A (letOwnedTupleGo t (.ref I) w) Q E s

abbrev IT := Loc → View → (List V → (View → Prop) → View → Prop) → Prop
/-- an iterable in the head of a loop -/
structure HI (C : Cx) (sc : Scope) (k : Nat) (e : Expr) (T : IT) : Prop where
  run : ∀ (env : Env) (A : Around) (s : Shared) (m : Loc) (σ : View) (Q : List V → (View → Prop) → View → Prop) (P : Value → Shared → Prop) (E : Value → Shared → Prop),
    EnvOk env sc → AOk C A k → RelG C σ s → FrameRel C env m σ s.heap → T m σ Q →
    (∀ items inv I St σ' s', It C k I items inv St → St 0 s'.heap → s.heap.objs.size ≤ I → σ' I = Option.none → RelG C σ' s' → Step no σ σ' s.heap s'.heap → Q items inv σ' → P (.ref I) s') →
    wpAny (model C.prog C.w) A (eval e env) (fun x s₁ => wpAny (model C.prog C.w) A (pyIter x) P E s₁) E s

/-- the next item is drawn: the frame and the view stand -/
theorem draw_rel {σ : View} {s : Shared} {h' : Heap} {tk : Nat} {I : Addr} (R : RelG C σ s) (hx : Heap.ExtBut I s.heap h') (hσ : σ I = Option.none) (hb : C.hB.get? I = Option.none) (hI : ∃ o, s.heap.get? I = some o ∧ ¬ IsT o ∧ ∀ v, o.data ≠ .cell v) :
    RelG C σ { s with heap := h', toks := tk } := by
  obtain ⟨oI, hoI, hT, _⟩ := hI
  have kt : TupKeep s.heap h' := fun b o e ht => hx b o (by rintro rfl; rw [hoI] at e; cases e; exact hT ht) e
  exact ⟨let ⟨_, _, d, e⟩ := R.rest; ⟨h', tk, d, by rw [e]⟩, fun b o e => hx b o (by rintro rfl; rw [hb] at e; cases e) (R.base b o e),
    fun a o e => (R.view a o e).keep kt fun o' e' => hx a o' (by rintro rfl; rw [hσ] at e; cases e) e', R.apart⟩
theorem draw_frame {env : Env} {m : Loc} {σ : View} {s : Shared} {h' : Heap} {I : Addr} (F : FrameRel C env m σ s.heap) (hx : Heap.ExtBut I s.heap h') (hI : ∃ o, s.heap.get? I = some o ∧ ¬ IsT o ∧ ∀ v, o.data ≠ .cell v) (hL : I ≠ env.locals) : FrameRel C env m σ h' := by
  obtain ⟨oI, hoI, hT, hC⟩ := hI
  have kt : TupKeep s.heap h' := fun b o e ht => hx b o (by rintro rfl; rw [hoI] at e; cases e; exact hT ht) e
  have kc : ∀ c v, s.heap.IsCell c v → h'.IsCell c v := fun c v ⟨o, ho, hd⟩ => ⟨o, hx c o (by rintro rfl; rw [hoI] at ho; cases ho; exact hC _ hd) ho, hd⟩
  obtain ⟨mm, hn, hm⟩ := F.ns
  refine ⟨⟨mm, hn.extBut hx (Ne.symm hL), fun y u e ky => ?_⟩, fun y u e => ?_, fun n c e => ?_, F.sepL, F.baseL, F.baseC, F.dist, F.has⟩
  · obtain ⟨w, h1, h2⟩ := hm y u e ky; exact ⟨w, h1, h2.keep kt⟩
  · rcases F.cel y u e with z | ⟨z, c, w', h1, h2, h3⟩
    · exact .inl z
    · exact .inr ⟨z, c, w', h1, kc _ _ h2, h3.keep kt⟩
  · obtain ⟨v, hv⟩ := F.cells n c e; exact ⟨v, kc _ _ hv⟩

/-- the target of a loop or of an assignment -/
inductive Tgt where
  | name (x : String)
  | tup (xs : List String)
def bindT : Tgt → V → Loc → Option Loc
  | .name x, v, m => some (put m x v)
  | .tup xs, .tup vs, m => if xs.length = vs.length then some (bindM xs vs m) else Option.none
  | .tup _, _, _ => Option.none
/-- what an assignment may turn: the names of the frame, or its cells too -/
def OwnL (loc : Bool) (env : Env) (b : Addr) : Prop := b = env.locals ∨ (loc = false ∧ ∃ n, env.cells.lookup n = some b)
structure HT (C : Cx) (sc : Scope) (k : Nat) (loc : Bool) (t : Expr) (g : Tgt) : Prop where
  run : ∀ (env : Env) (A : Around) (s : Shared) (m m' : Loc) (σ : View) (v : V) (w : Value) (P : Unit → Shared → Prop) (E : Value → Shared → Prop),
    EnvOk env sc → AOk C A k → RelG C σ s → FrameRel C env m σ s.heap → VRel C.aS s.heap v w → bindT g v m = some m' →
    (∀ s', RelG C σ s' → FrameRel C env m' σ s'.heap → Step (OwnL loc env) σ σ s.heap s'.heap → P () s') → wpAny (model C.prog C.w) A (assign t env w) P E s
theorem HT.name {x : String} {pos : Pos} (hx : sc.names.lookup (Str.ofString x) = some .local) : HT C sc k true (.Name (Str.ofString x) pos) (.name x) := by
  refine ⟨?_⟩; intro env A s m m' σ v w P E en ao R F hv hb hP
  cases hb
  exact wpAny_assign_Name (store_local en R F hx hv fun s' R' F' S' => hP s' R' F' (S'.mono fun _ _ _ z => .inl z))
def forL (g : Tgt) (inv : View → Prop) (T : ST) : List V → ST
  | [] => fun m σ Q => inv σ ∧ Q .next m σ
  | v :: r => fun m σ Q => inv σ ∧ ∃ m', bindT g v m = some m' ∧ T m' σ fun f m₁ σ₁ => match f with
    | .next => forL g inv T r m₁ σ₁ Q
    | .cont => forL g inv T r m₁ σ₁ Q
    | .brk => Q .next m₁ σ₁
    | .ret u => Q (.ret u) m₁ σ₁
def sFor (g : Tgt) (I : IT) (T : ST) : ST := fun m σ Q => I m σ fun items inv σ' => forL g inv T items m σ' Q
theorem HS1.for {target iter : Expr} {body : List Stmt} {pos : Pos} {g : Tgt} {I : IT} {T : ST} {loc : Bool} (ht : HT C sc k loc target g) (hi : HI C sc k iter I) (hb : HS C sc k body T)
    (hf : ∀ env x, foldedSetIterable iter env x = pure x) : HS1 C sc k (.For target iter body [] pos) (sFor g I T) := by
  refine ⟨?_⟩; intro env A s m σ Q P E en ao R F q hP
  rw [exec_For]
  refine wpAny_bind (wpAny_standAt ?_)
  have start : wpAny (model C.prog C.w) A (eval iter env) (fun x s₁ => wpAny (model C.prog C.w) A (pyIter x) (fun it s₂ => codeAny (model C.prog C.w) A (.forLoop target it body [] env) (fun r s' => match r with | .ok f => P f s' | .error e => cameBackBy (model C.prog C.w) A env E e s') s₂) E s₁) E s := by
    refine hi.run env A s m σ _ _ E en ao R F q fun items inv I St σ₀ s₀ hit st₀ hI hσ₀ R₀ S₀ q₀ => ?_
    have F₀ := F.step R S₀
    obtain ⟨mm, hn, _⟩ := F.ns
    have hIL : I ≠ env.locals := fun e => absurd hn.lt (Nat.not_lt.mpr (e ▸ hI))
    have hIb : C.hB.get? I = Option.none := R.baseNone (get_none_of_size hI)
    have back : ∀ {σ' : View} {h' : Heap}, Step (fun b => Own env b ∨ b = I) σ σ' s.heap h' → Step (Own env) σ σ' s.heap h' := fun S =>
      S.mono fun b o e z => z.elim id fun z => absurd (Heap.lt_size e) (Nat.not_lt.mpr (z ▸ hI))
    refine codeAny_forLoop_any
      (fun n s' => ∃ i m' σ' rest, items.drop i = rest ∧ i ≤ items.length ∧ n = rest.length + 1 ∧ St i s'.heap ∧ σ' I = Option.none ∧ RelG C σ' s' ∧ FrameRel C env m' σ' s'.heap ∧ Step (fun b => Own env b ∨ b = I) σ σ' s.heap s'.heap ∧ forL g inv T rest m' σ' Q) ?_ _
      ⟨0, m, σ₀, items, by simp, by simp, rfl, st₀, hσ₀, R₀, F₀, S₀.mono fun _ _ _ z => z.elim, q₀⟩
    rintro n s' ⟨i, m', σ', rest, e1, e2, rfl, st, hσ', R', F', S', q'⟩
    have drew : ∀ {h' : Heap}, Heap.ExtBut I s'.heap h' → s'.heap.objs.size ≤ h'.objs.size → Step (fun b => Own env b ∨ b = I) σ' σ' s'.heap h' := fun hx hsz =>
      .of (fun b o e _ q => hx b o (fun z => q (.inr z)) e) hsz fun _ a b => absurd a b
    cases rest with
    | nil =>
      have hil : i = items.length := by
        have := congrArg List.length e1
        simp at this; omega
      subst hil
      refine with_size (hit.done A σ' s' _ _ ao R' q'.1 st fun h' tk hx hsz => ?_)
      exact wpAny_execs_nil (hP .next .next m' σ' _ .next (draw_rel (tk := tk) R' hx hσ' hIb (hit.live _ _ st)) (draw_frame F' hx (hit.live _ _ st) hIL) (back (S'.trans (drew hx hsz))) q'.2)
    | cons v r =>
      obtain ⟨hinv, m₁, hm₁, q'⟩ := q'
      have hiv : items[i]? = some v := by
        have : (items.drop i)[0]? = some v := by rw [e1]; rfl
        simpa using this
      have hilt : i < items.length := by
        have := congrArg List.length e1
        simp at this; omega
      refine with_size (hit.next A σ' s' i v _ _ ao R' hinv st hiv fun w h₁ tk₁ hv st₁ hx hsz => ?_)
      have R₁ := draw_rel (tk := tk₁) R' hx hσ' hIb (hit.live _ _ st)
      have F₁ := draw_frame F' hx (hit.live _ _ st) hIL
      have S₁ := S'.trans (drew hx hsz)
      refine hit.own A _ (i + 1) target w _ _ st₁ ?_
      refine ht.run env A _ m' m₁ σ' v w _ _ en ao R₁ F₁ hv hm₁ fun s₂ R₂ F₂ S₂L => ?_
      have S₂ : Step (Own env) σ' σ' h₁ s₂.heap := S₂L.mono fun _ _ _ z => z.imp id fun z => z.2
      have S₂' : Step (fun b => Own env b ∨ b = I) σ' σ' h₁ s₂.heap := S₂.mono fun _ _ _ z => .inl z
      have st₂ : St (i + 1) s₂.heap := hit.frame _ _ _ st₁ (fun o e => S₂.keep I o e hσ' (fun z => by
        rcases z with z | ⟨n, z⟩
        · exact hIL z
        · obtain ⟨u, ou, hou, hdu⟩ := F₁.cells n I z
          obtain ⟨o', ho', _, hc'⟩ := hit.live _ _ st₁
          have : ou = o' := Option.some.inj (hou.symm.trans ho')
          exact hc' u (this ▸ hdu)) (hit.flds _ _ st₁ o e)) (S₂.tupsO F₁ R₁)
      refine hb.run env A s₂ m₁ σ' _ _ _ en ao R₂ F₂ q' fun f fl m₃ σ₃ s₃ hf R₃ F₃ S₃ q₃ => ?_
      have S₃' : Step (fun b => Own env b ∨ b = I) σ' σ₃ s₂.heap s₃.heap := S₃.mono fun _ _ _ z => .inl z
      have SS := (S₁.trans S₂').trans S₃'
      have go : forL g inv T r m₃ σ₃ Q → ∃ k', k' < (v :: r).length + 1 ∧ ∃ i m' σ' rest, items.drop i = rest ∧ i ≤ items.length ∧ k' = rest.length + 1 ∧ St i s₃.heap ∧ σ' I = Option.none ∧ RelG C σ' s₃ ∧ FrameRel C env m' σ' s₃.heap ∧ Step (fun b => Own env b ∨ b = I) σ σ' s.heap s₃.heap ∧ forL g inv T rest m' σ' Q := fun q₃ => by
        refine ⟨r.length + 1, by simp, i + 1, m₃, σ₃, r, ?_, hilt, rfl, ?_, ?_, R₃, F₃, SS, q₃⟩
        · rw [← List.tail_drop, e1]; rfl
        · refine hit.frame _ _ _ st₂ (fun o e => S₃.keep I o e hσ' (fun z => ?_) (hit.flds _ _ st₂ o e)) (S₃.tupsO F₂ R₂)
          rcases z with z | ⟨n, z⟩
          · exact hIL z
          · obtain ⟨u, ou, hou, hdu⟩ := F₂.cells n I z
            obtain ⟨o', ho', _, hc'⟩ := hit.live _ _ st₂
            have : ou = o' := Option.some.inj (hou.symm.trans ho')
            exact hc' u (this ▸ hdu)
        · cases z : σ₃ I with
          | none => rfl
          | some o =>
            obtain ⟨o', ho', _⟩ := hit.live _ _ st₂
            exact absurd (Heap.lt_size ho') (Nat.not_lt.mpr (S₃.new I hσ' (by rw [z]; simp)))
      cases hf with
      | next => exact go q₃
      | cont => exact go q₃
      | brk => exact hP .next .next m₃ σ₃ s₃ .next R₃ F₃ (back SS) q₃
      | ret hv => exact hP _ _ m₃ σ₃ s₃ (.ret hv) R₃ F₃ (back SS) q₃
  refine wpAny_bind (wpAny_mono start (fun x s₁ h₁ => wpAny_bind (wpAny_of_eq (hf env x) (wpAny_bind (wpAny_standAt (wpAny_bind (wpAny_holding (wpAny_mono h₁ (fun it s₂ h₂ => wpAny_runOwn h₂) fun _ _ h' => h'))))))) fun _ _ h' => h')
end
end Mine


end
noncomputable section
set_option autoImplicit false
namespace Mine
open PySem
/-- no exception is held, or one that came of no other -/
def Hd (A : Around) (h : Heap) : Prop := A.handled = none ∨ ∃ e o vs, A.handled = some (.ref e) ∧ h.get? e = some o ∧ o.data = .fields vs ∧ vs[2]? = some .none
section
variable {prog : Program} {w : World} {A : Around} {E : Value → Shared → Prop} {s : Shared}
theorem entry_unchain : entryFor table "proto.unchain" = some Builtin.«proto.unchain» := entryFor_of_fast (by kernel_rfl)
theorem plain_unchain : plainId "proto.unchain" = true := by decide +kernel
theorem unchain_end {e : Addr} {x : Value} {o : Obj} {vs : Array Value} {Q : Value → Shared → Prop} (ho : s.heap.get? e = some o) (hd : o.data = .fields vs) (h2 : vs[2]? = some .none) (h : Q .none s) :
    wpAny (model prog w) A (runValue (.builtin "proto.unchain" ⟨[x, .ref e, .ref e, .bool false], []⟩)) Q E s := by
  refine wpAny_runValue (codeAny_builtin entry_unchain ?_)
  rw [Around.under_plainId plain_unchain _]
  unfold Builtin.«proto.unchain»
  dsimp only
  refine wpAny_bind (wpAny_field ho hd h2 ?_)
  rw [if_pos (by decide)]
  exact wpAny_pure h
theorem stopH {Q : Option Value → Shared → Prop} {P : Fin → Shared → Prop} (hh : Hd A s.heap) (h : ∀ h', (∀ b o, s.heap.get? b = some o → h'.get? b = some o) → Q none { s with heap := h' }) :
    wpAny (model prog w) A.in1 (do
        let e ← newExc (Value.type "StopIteration") []
        raiseNew e) P (fun e s' => wpAny (model prog w) A (do
          let b ← isInstance e (Value.type "StopIteration")
          if b = true then pure none else throw e) Q E s') s := by
  refine wpAny_bind ?_
  simp only [newExc, newTuple]
  refine wpAny_bind (wpAny_newObj_type ?_ (by size_fits))
  refine wpAny_bind (m := firstArgMember _ _) (wpAny_of_eq (a := Value.none) (by first | rfl | (simp only [firstArgMember]; rfl)) ?_)
  refine wpAny_newObj_type ?_ (by size_fits)
  simp only [raiseNew]
  refine wpAny_bind (wpAny_handled ?_)
  rcases hh with hh | ⟨e, o, vs, hh, ho, hd, h2⟩
  · rw [show A.in1.handled = none from hh]
    refine wpAny_bind (wpAny_pure (wpAny_throw ?_))
    refine wpAny_bind (wpAny_isInstance (T := "StopIteration") (b := true) ⟨_, Heap.get?_push_size _ rfl, rfl⟩ isSubtype_stop ?_)
    exact wpAny_pure (h _ fun b o e => Heap.get?_push_of_some _ (Heap.get?_push_of_some _ e))
  · rw [show A.in1.handled = some (.ref e) from hh]
    dsimp only
    have hlt := Heap.lt_size ho
    have hne : e ≠ s.heap.objs.size + 1 := Nat.ne_of_lt (Nat.lt_succ_of_lt hlt)
    rw [Heap.size_push]
    rw [if_pos (by simp [hne])]
    have ho2 := Heap.get?_push_of_some (h := s.heap.push { cls := .type "tuple", dict := none, data := .seq ([] : List Value).toArray }) { cls := .type "StopIteration", dict := none, data := .fields (#[.ref s.heap.objs.size, .none, .none, .none, .bool false, .none] ++ ownMembersOf (.type "StopIteration") []) } (Heap.get?_push_of_some _ ho)
    refine wpAny_bind (wpAny_holding (unchain_end ho2 hd h2 ?_))
    have hn := Heap.get?_push_size (s.heap.push { cls := .type "tuple", dict := none, data := .seq ([] : List Value).toArray }) (o := { cls := .type "StopIteration", dict := none, data := .fields (#[.ref s.heap.objs.size, .none, .none, .none, .bool false, .none] ++ ownMembersOf (.type "StopIteration") []) }) rfl
    rw [Heap.size_push] at hn
    refine wpAny_bind (show wpAny _ _ (setField (.ref (s.heap.objs.size + 1)) 2 (.ref e)) _ _ _ from wpAny_setField hn rfl (by rw [Array.size_append]; show 2 < 6 + _; omega) (wpAny_throw ?_))
    have hd3 := Obj.data_mapFields (o := { cls := .type "StopIteration", dict := none, data := .fields (#[.ref s.heap.objs.size, .none, .none, .none, .bool false, .none] ++ ownMembersOf (.type "StopIteration") []) }) rfl (·.setIfInBounds 2 (Value.ref e))
    have hn3 := Heap.get?_update_self (Obj.mapFields (·.setIfInBounds 2 (Value.ref e))) hn (Obj.isFreed_of_fields hd3)
    refine wpAny_bind (wpAny_isInstance (T := "StopIteration") (b := true) ⟨_, hn3, Obj.cls_mapFields _ _⟩ isSubtype_stop ?_)
    refine wpAny_pure (h _ fun b o e => ?_)
    rw [Heap.get?_update_other _ _ (Ne.symm (Nat.ne_of_lt (Nat.lt_succ_of_lt (Heap.lt_size e))))]
    exact Heap.get?_push_of_some _ (Heap.get?_push_of_some _ e)
theorem list_endH {it l : Addr} {i : Nat} {items : Array Value} {Q : Option Value → Shared → Prop} (hh : Hd A s.heap)
    (hit : s.heap.IsListIter it l i) (hl : s.heap.IsList l items) (hx : items[i]? = none) (hie : ∀ e, A.handled = some (.ref e) → e ≠ it)
    (hQ : ∀ h', Heap.ExtBut it s.heap h' → Q none { s with heap := h' }) : wpAny (model prog w) A (pyNext (.ref it)) Q E s := by
  obtain ⟨o, ho, hc, hd⟩ := id hit
  obtain ⟨ol, hol, _, nl, hdl⟩ := hl
  unfold pyNext
  refine wpAny_bind (wpAny_attempt (wpAny_callSpecial?_slot (name := Str.ofString "__next__") hit.typeIs slot_listiter_next
    (wpAny_call_entry slot_listiter_next hit.typeIs entry_listiter_next ?_ (args_listiter_next _))))
  show wpAny _ _ (field (.ref it) 0 >>= _) _ _ s
  refine wpAny_bind (wpAny_field ho hd (x := .ref l) rfl ?_)
  show wpAny _ _ (if (Value.ref l == Value.none) = true then _ else _) _ _ s
  rw [if_neg (show ¬ ((Value.ref l == Value.none) = true) from Bool.false_ne_true)]
  show wpAny _ _ (field (.ref it) 1 >>= _) _ _ s
  refine wpAny_bind (wpAny_field ho hd (x := .int i 0) rfl ?_)
  show wpAny _ _ (seqItems? (.ref l) >>= _) _ _ s
  refine wpAny_bind (wpAny_seqItems hol hdl ?_)
  simp only [Int.toNat_natCast, hx]
  refine wpAny_bind (wpAny_rule (wpAny_bind (wpAny_setField ho hd (by simp) ?_)))
  refine stopH ?_ fun h' hk => hQ h' fun b o' hb e => hk b o' ((Heap.SameBut.update s.heap it _).extBut b o' hb e)
  rcases hh with hh | ⟨e, o', vs, hh, ho', hd', h2⟩
  · exact .inl hh
  · exact .inr ⟨e, o', vs, hh, (Heap.get?_update_other _ _ (Ne.symm (hie e hh))).trans ho', hd', h2⟩
theorem tuple_endH {it t : Addr} {i : Nat} {items : Array Value} {Q : Option Value → Shared → Prop} (hh : Hd A s.heap)
    (hit : s.heap.IsTupleIter it t i) (ht : s.heap.IsTuple t items) (hx : items[i]? = none) (hie : ∀ e, A.handled = some (.ref e) → e ≠ it)
    (hQ : ∀ h', Heap.ExtBut it s.heap h' → Q none { s with heap := h' }) : wpAny (model prog w) A (pyNext (.ref it)) Q E s := by
  obtain ⟨o, ho, hc, hd⟩ := id hit
  obtain ⟨ol, hol, _, nl, hdl⟩ := ht
  unfold pyNext
  refine wpAny_bind (wpAny_attempt (wpAny_callSpecial?_slot (name := Str.ofString "__next__") hit.typeIs F.slot_tuple_iterator_next
    (wpAny_call_entry F.slot_tuple_iterator_next hit.typeIs F.entry_tuple_iterator_next ?_ (F.args_tuple_iterator_next_1 _))))
  show wpAny _ _ (field (.ref it) 0 >>= _) _ _ s
  refine wpAny_bind (wpAny_field ho hd (x := .ref t) rfl ?_)
  show wpAny _ _ (if (Value.ref t == Value.none) = true then _ else _) _ _ s
  rw [if_neg (show ¬ ((Value.ref t == Value.none) = true) from Bool.false_ne_true)]
  show wpAny _ _ (field (.ref it) 1 >>= _) _ _ s
  refine wpAny_bind (wpAny_field ho hd (x := .int i 0) rfl ?_)
  show wpAny _ _ (seqItems? (.ref t) >>= _) _ _ s
  refine wpAny_bind (wpAny_seqItems hol hdl ?_)
  simp only [Int.toNat_natCast, hx]
  refine wpAny_bind (wpAny_rule (wpAny_bind (wpAny_setField ho hd (by simp) ?_)))
  refine stopH ?_ fun h' hk => hQ h' fun b o' hb e => hk b o' ((Heap.SameBut.update s.heap it _).extBut b o' hb e)
  rcases hh with hh | ⟨e, o', vs, hh, ho', hd', h2⟩
  · exact .inl hh
  · exact .inr ⟨e, o', vs, hh, (Heap.get?_update_other _ _ (Ne.symm (hie e hh))).trans ho', hd', h2⟩
theorem assignH {env : Env} {elts : List Expr} {x1 : Nat} {pos : Pos} {t : Addr} {items : Array Value} {Q : Unit → Shared → Prop} (hh : Hd A s.heap) (ht : s.heap.IsTuple t items)
    (hn : (assignEach elts env).length = items.size) (hstar : (assignEach elts env).findIdx? (·.1) = none)
    (h : ∀ h', Heap.ExtBut s.heap.objs.size s.heap h' → wpAny (model prog w) A (assignInOrder ((assignEach elts env).map (·.2)) items.toList) Q E { s with heap := h' }) :
    wpAny (model prog w) A (assign (.Tuple elts x1 pos) env (.ref t)) Q E s := by
  rw [arm_assign_Tuple]
  refine wpAny_bind (wpAny_standAt ?_)
  unfold unpack
  rw [hn, hstar]
  refine wpAny_bind (wpAny_holding ?_)
  have hlt : t ≠ s.heap.objs.size := by obtain ⟨o, ho, _⟩ := ht; exact Nat.ne_of_lt (Heap.lt_size ho)
  unfold unpackItems
  refine wpAny_bind ?_
  unfold notIterableAtAll
  refine wpAny_bind (wpAny_specialOf ht.typeIs F.slot_tuple_iter.lookup ?_)
  refine wpAny_pure ?_
  simp only [Bool.false_eq_true, if_false]
  refine wpAny_bind (wpAny_holding (wpAny_pyIter_tuple ht ?_))
  refine wpAny_bind (wpAny_holding (wpAny_draw_tuple hlt items.size 0 _ _ ⟨_, Heap.get?_push_size _ rfl, rfl, rfl⟩ (ht.push _) (by omega) fun h₁ hit₁ hs₁ => ?_))
  have hall : List.take items.size (List.drop 0 items.toList) = items.toList := by
    rw [List.drop_zero]; exact List.take_of_length_le (by simp)
  rw [hall]
  rw [if_neg (by simp)]
  have ht₁ : h₁.IsTuple t items := (ht.push _).extBut hs₁.extBut hlt
  have hd₁ : Hd A h₁ := by
    rcases hh with hh | ⟨e, o', vs, hh, ho', hd', h2⟩
    · exact .inl hh
    · exact .inr ⟨e, o', vs, hh, hs₁.extBut e o' (Nat.ne_of_lt (Heap.lt_size ho')) (Heap.get?_push_of_some _ ho'), hd', h2⟩
  refine wpAny_bind (wpAny_holding (tuple_endH hd₁ hit₁ ht₁ (by simp) (fun e he => ?_) fun h₂ he₂ => ?_))
  · rcases hh with hh | ⟨e', o', vs, hh, ho', hd', h2⟩
    · rw [hh] at he; cases he
    · rw [hh] at he; cases he; exact Nat.ne_of_lt (Heap.lt_size ho')
  simp only [Option.isSome_none, Bool.false_eq_true, if_false]
  exact wpAny_pure (h h₂ fun b o hb e => he₂ b o hb (hs₁.extBut b o hb (Heap.get?_push_of_some _ e)))
end
end Mine


end
noncomputable section
set_option autoImplicit false
namespace Mine
open PySem

section
variable {C : Cx} {sc : Scope} {k : Nat}
theorem own_plain {I : Addr} {o : Obj} {n : String} {A : Around} {s : Shared} {t : Expr} {w : Value} {Q : Unit → Shared → Prop} {E : Value → Shared → Prop} (ho : s.heap.get? I = some o) (hc : o.cls = .type n)
    (hn : ["enumerate", "zip", "dict_itemiterator", "dict_reverseitemiterator", "odict_iterator", "itertools.zip_longest", "itertools.pairwise"].contains n = false) (q : Q () s) : wpAny (model C.prog C.w) A (letOwnedTupleGo t (.ref I) w) Q E s := by
  have fin : ∀ vs a, wpAny (model C.prog C.w) A (if (["enumerate", "zip", "dict_itemiterator", "dict_reverseitemiterator", "odict_iterator", "itertools.zip_longest", "itertools.pairwise"].contains n && (vs : Array Value)[0]? == some (rawInt a)) = true then (do rule "for.unpacks-the-owned-tuple"; updateField I 0 .none) else pure ()) Q E s := fun vs a => by
    rw [hn, Bool.false_and, if_neg Bool.false_ne_true]; exact wpAny_pure q
  unfold letOwnedTupleGo
  split
  · cases w <;> first | exact wpAny_pure q | skip
    refine wpAny_bind (wpAny_load ho ?_)
    rw [hc]
    cases hd : o.data <;> first | exact wpAny_pure q | exact fin _ _
  · cases w <;> first | exact wpAny_pure q | skip
    refine wpAny_bind (wpAny_load ho ?_)
    rw [hc]
    cases hd : o.data <;> first | exact wpAny_pure q | exact fin _ _
  · exact wpAny_pure q

theorem AOk.hd {A : Around} {σ : View} {s : Shared} (ao : AOk C A k) (O : C.Ok) (R : RelG C σ s) : Hd A s.heap := by
  cases z : C.held with
  | none => exact .inl (ao.none z)
  | some e =>
    obtain ⟨o, vs, h1, h2, h3⟩ := O.heldOk e z
    exact .inr ⟨e, o, vs, by rw [ao.handled, z]; rfl, R.base _ _ h1, h2, h3⟩
theorem AOk.ne {A : Around} {σ : View} {s : Shared} {I : Addr} {oI : Obj} {a b : Value} (ao : AOk C A k) (O : C.Ok) (R : RelG C σ s) (hI : s.heap.get? I = some oI) (hd : oI.data = .fields #[a, b]) : ∀ e, A.handled = some (.ref e) → e ≠ I := by
  rintro e he rfl
  rw [ao.handled] at he
  cases z : C.held with
  | none => rw [z] at he; cases he
  | some e' =>
    rw [z] at he; cases he
    obtain ⟨o, vs, h1, h2, h3⟩ := O.heldOk _ z
    have := R.base _ _ h1
    rw [hI] at this; cases this
    rw [hd] at h2; cases h2; cases h3
theorem it_list (O : C.Ok) (I a : Addr) (xs : List V) : It C k I xs (fun σ => σ a = some (.list xs)) (fun i h => h.IsListIter I a i) where
  frame := fun i h h' st kI _ => st.at kI
  live := fun i h ⟨o, ho, hc, hd⟩ => ⟨o, ho, (fun ⟨_, _, _, h2⟩ => by rw [hd] at h2; cases h2), (fun v h2 => by rw [hd] at h2; cases h2)⟩
  flds := fun i h ⟨o, ho, hc, hd⟩ o' ho' es ep z => by rw [ho] at ho'; cases ho'; rw [hd] at z; cases z
  next := fun A σ s i v Q E ao R inv st hv hQ => by
    obtain ⟨_, ws, h1, h2⟩ := R.view a _ inv
    obtain ⟨w, hw, hr⟩ := h2.get hv
    refine wpAny_pyNext_list_item st h1.isList (x := w) (by simpa using hw) fun h' st' hs' => hQ w h' s.toks (hr.keep ?_) st' hs'.extBut
    obtain ⟨o, ho, hc, hd⟩ := st
    exact fun b ob e ht => hs'.extBut b ob (by rintro rfl; rw [ho] at e; cases e; obtain ⟨_, _, _, h2⟩ := ht; rw [hd] at h2; cases h2) e
  done := fun A σ s Q E ao R inv st hQ => by
    obtain ⟨_, ws, h1, h2⟩ := R.view a _ inv
    obtain ⟨oI, hoI, _, hdI⟩ := id st
    exact list_endH (ao.hd O R) st h1.isList (by have := h2.length; simp [this]) (ao.ne O R hoI hdI) fun h' hx => hQ h' s.toks hx
  self := fun A s i Q E st q => wpAny_pyIter_listiter st q
  own := fun A s i t w Q E ⟨o, ho, hc, hd⟩ q => own_plain ho hc (by decide) q
theorem it_script (O : C.Ok) (I : Addr) : It C k I (C.ns.map .int) (fun _ => True) (fun i h => h.IsListIter I C.aS i) where
  frame := fun i h h' st kI _ => st.at kI
  live := fun i h ⟨o, ho, hc, hd⟩ => ⟨o, ho, (fun ⟨_, _, _, h2⟩ => by rw [hd] at h2; cases h2), (fun v h2 => by rw [hd] at h2; cases h2)⟩
  flds := fun i h ⟨o, ho, hc, hd⟩ o' ho' es ep z => by rw [ho] at ho'; cases ho'; rw [hd] at z; cases z
  next := fun A σ s i v Q E ao R inv st hv hQ => by
    obtain ⟨ws, h1, h2, h3⟩ := O.script
    rw [List.getElem?_map] at hv
    obtain ⟨n, hn, rfl⟩ := Option.map_eq_some_iff.mp hv
    obtain ⟨t, ht⟩ := h3 i n hn
    refine wpAny_pyNext_list_item st (h1.at fun o e => R.base _ _ e) (x := .int n t) (by simpa using ht) fun h' st' hs' => hQ _ h' s.toks (.int n t) st' hs'.extBut
  done := fun A σ s Q E ao R inv st hQ => by
    obtain ⟨ws, h1, h2, h3⟩ := O.script
    obtain ⟨oI, hoI, _, hdI⟩ := id st
    exact list_endH (ao.hd O R) st (h1.at fun o e => R.base _ _ e) (by simp at h2; simp [h2]) (ao.ne O R hoI hdI) fun h' hx => hQ h' s.toks hx
  self := fun A s i Q E st q => wpAny_pyIter_listiter st q
  own := fun A s i t w Q E ⟨o, ho, hc, hd⟩ q => own_plain ho hc (by decide) q
theorem it_tup (O : C.Ok) (I a : Addr) (vs : List V) (ws : List Value) : It C k I vs (fun _ => True) (fun i h => h.IsTupleIter I a i ∧ h.IsTuple a ws.toArray ∧ VRels C.aS h vs ws) where
  frame := fun i h h' st kI kt => ⟨st.1.at kI, let ⟨o, ho, hc, n, r⟩ := st.2.1; ⟨o, kt a o ho ⟨hc, _, n, r⟩, hc, n, r⟩, st.2.2.keep kt⟩
  live := fun i h ⟨⟨o, ho, hc, hd⟩, _⟩ => ⟨o, ho, (fun ⟨_, _, _, h2⟩ => by rw [hd] at h2; cases h2), (fun v h2 => by rw [hd] at h2; cases h2)⟩
  flds := fun i h ⟨⟨o, ho, hc, hd⟩, _⟩ o' ho' es ep z => by rw [ho] at ho'; cases ho'; rw [hd] at z; cases z
  next := fun A σ s i v Q E ao R inv st hv hQ => by
    obtain ⟨w, hw, hr⟩ := st.2.2.get hv
    obtain ⟨o, ho, hc, hd⟩ := id st.1
    have kt : ∀ h', Heap.SameBut I s.heap h' → TupKeep s.heap h' := fun h' hs' b ob e ht => hs'.extBut b ob (by rintro rfl; rw [ho] at e; cases e; obtain ⟨_, _, _, h2⟩ := ht; rw [hd] at h2; cases h2) e
    refine wpAny_pyNext_tuple_item st.1 st.2.1 (x := w) (by simpa using hw) fun h' st' hs' => hQ w h' s.toks (hr.keep (kt h' hs')) ⟨st', ?_, st.2.2.keep (kt h' hs')⟩ hs'.extBut
    obtain ⟨o, ho, hc, n, r⟩ := st.2.1
    exact ⟨o, kt h' hs' a o ho ⟨hc, _, n, r⟩, hc, n, r⟩
  done := fun A σ s Q E ao R inv st hQ => tuple_endH (ao.hd O R) st.1 st.2.1 (by have := st.2.2.length; simp [this]) (let ⟨_, hoI, _, hdI⟩ := st.1; ao.ne O R hoI hdI) fun h' hx => hQ h' s.toks hx
  self := fun A s i Q E st q => wpAny_pyIter_tupleiter st.1 q
  own := fun A s i t w Q E ⟨⟨o, ho, hc, hd⟩, _⟩ q => own_plain ho hc (by decide) q
def signs (x : Str) : List V := x.cps.toList.map fun c => .str ⟨#[c]⟩
theorem it_str (hz : C.held = none) (I : Addr) (cls : String) (x : Str) (t : Tok) (hcls : cls = "str_ascii_iterator" ∨ cls = "str_iterator") : It C k I (signs x) (fun _ => True) (fun i h => h.IsStrIter I cls x t i) where
  frame := fun i h h' ⟨o, ho, r⟩ kI _ => ⟨o, kI o ho, r⟩
  live := fun i h ⟨o, ho, hc, hd⟩ => ⟨o, ho, (fun ⟨_, _, _, h2⟩ => by rw [hd] at h2; cases h2), (fun v h2 => by rw [hd] at h2; cases h2)⟩
  flds := fun i h ⟨o, ho, hc, hd⟩ o' ho' es ep z => by rw [ho] at ho'; cases ho'; rw [hd] at z; cases z
  next := fun A σ s i v Q E ao R inv st hv hQ => by
    unfold signs at hv
    rw [List.getElem?_map] at hv
    obtain ⟨c, hc, rfl⟩ := Option.map_eq_some_iff.mp hv
    rcases hcls with rfl | rfl
    · exact wpAny_pyNext_ascii_item st (c := c) (by simpa using hc) fun h' st' hs' => hQ _ h' _ (.str _ _) st' hs'.extBut
    · exact wpAny_pyNext_wide_item st (c := c) (by simpa using hc) fun h' st' hs' => hQ _ h' _ (.str _ _) st' hs'.extBut
  done := fun A σ s Q E ao R inv st hQ => by
    rcases hcls with rfl | rfl
    · exact wpAny_pyNext_ascii_end (ao.none hz) st (by simp [signs]) fun h' hx => hQ h' s.toks hx
    · exact wpAny_pyNext_wide_end (ao.none hz) st (by simp [signs]) fun h' hx => hQ h' s.toks hx
  self := fun A s i Q E st q => by
    rcases hcls with rfl | rfl
    · exact wpAny_pyIter_striter_ascii st q
    · exact wpAny_pyIter_striter_wide st q
  own := fun A s i t w Q E ⟨o, ho, hc, hd⟩ q => by
    rcases hcls with rfl | rfl
    · exact own_plain ho hc (by decide) q
    · exact own_plain ho hc (by decide) q
theorem it_dict (hz : C.held = none) (I d : Addr) (kvs : List (Str × V)) (ep : Nat) : It C k I (kvs.map fun p => .str p.1) (fun σ => σ d = some (.dict kvs ep)) (fun i h => h.IsKeyIter I d i kvs.length ep) where
  frame := fun i h h' st kI _ => st.at kI
  live := fun i h ⟨o, ho, hc, hd⟩ => ⟨o, ho, (fun ⟨_, _, _, h2⟩ => by rw [hd] at h2; cases h2), (fun v h2 => by rw [hd] at h2; cases h2)⟩
  flds := fun i h ⟨o, ho, hc, hd⟩ o' ho' es ep z => by rw [ho] at ho'; cases ho'; rw [hd] at z; cases z
  next := fun A σ s i v Q E ao R inv st hv hQ => by
    obtain ⟨_, kws, h1, h2⟩ := R.view d _ inv
    rw [List.getElem?_map] at hv
    obtain ⟨⟨key, u⟩, hku, rfl⟩ := Option.map_eq_some_iff.mp hv
    obtain ⟨w, hw, _⟩ := PRel.get h2 hku
    have st' : s.heap.IsKeyIter I d i kws.length ep := by rw [← h2.length]; exact st
    refine wpAny_pyNext_dict_item st' h1 hw fun kv h' hkey hit' hs' => hQ kv h' s.toks ?_ (by rw [h2.length]; exact hit') hs'.extBut
    cases kv with
    | str y t =>
      have : y = key := by simpa [strKind, Value.isStrOf] using hkey
      subst this; exact .str _ _
    | _ => simp [strKind, Value.isStrOf] at hkey
  done := fun A σ s Q E ao R inv st hQ => by
    obtain ⟨_, kws, h1, h2⟩ := R.view d _ inv
    have e : (kvs.map fun p : Str × V => V.str p.1).length = kws.length := by rw [List.length_map, h2.length]
    have st' : s.heap.IsKeyIter I d kws.length kws.length ep := by rw [← e]; simpa using st
    exact wpAny_pyNext_dict_end (ao.none hz) st' h1 (by simp) fun h' hx => hQ h' s.toks hx
  self := fun A s i Q E st q => wpAny_pyIter_keyiter st q
  own := fun A s i t w Q E ⟨o, ho, hc, hd⟩ q => own_plain ho hc (by decide) q
def rangeL (a : Int) (n : Nat) : List V := (List.range n).map fun (i : Nat) => .int (a + i)
theorem it_range (hz : C.held = none) (I : Addr) (a : Int) (n : Nat) : It C k I (rangeL a n) (fun _ => True) (fun i h => IsRangeIter h I (a + (i : Nat) * 1) ((n : Int) - (i : Nat)) 1) where
  frame := fun i h h' st kI _ => kI _ st
  live := fun i h st => ⟨_, st, fun ⟨_, _, _, h2⟩ => by simp at h2, fun v h2 => by simp at h2⟩
  flds := fun i h st o' ho' es ep z => by rw [st] at ho'; cases ho'; cases z
  next := fun A σ s i v Q E ao R inv st hv hQ => by
    unfold rangeL at hv
    rw [List.getElem?_map] at hv
    obtain ⟨j, hj, rfl⟩ := Option.map_eq_some_iff.mp hv
    have hjn := List.getElem?_eq_some_iff.mp hj
    obtain ⟨hlt, hji⟩ := hjn
    simp at hji hlt
    subst hji
    refine wpAny_pyNext_range_item st (by omega) fun h' hit' hs' => ?_
    have e1 : a + ((i + 1 : Nat) : Int) * 1 = a + (i : Int) * 1 + 1 := by push_cast; omega
    have e2 : (n : Int) - ((i + 1 : Nat) : Int) = (n : Int) - (i : Int) - 1 := by push_cast; omega
    refine hQ _ h' _ ?_ (by rw [e1, e2]; exact hit') hs'.extBut
    rw [Int.mul_one]; exact .int _ _
  done := fun A σ s Q E ao R inv st hQ => wpAny_pyNext_range_end (ao.none hz) st (by simp [rangeL]) fun h' hx => hQ h' s.toks hx
  self := fun A s i Q E st q => wpAny_pyIter_rangeiter st q
  own := fun A s i t w Q E st q => own_plain st rfl (by decide) q

def iterOf (ns : List Int) : V → View → (List V → (View → Prop) → View → Prop) → Prop
  | .str x, σ, Q => Q (signs x) (fun _ => True) σ
  | .tup vs, σ, Q => Q vs (fun _ => True) σ
  | .script, σ, Q => Q (ns.map .int) (fun _ => True) σ
  | .ref a, σ, Q => match σ a with
    | some (.list xs) => Q xs (fun σ => σ a = some (.list xs)) σ
    | some (.dict kvs ep) => Q (kvs.map fun p => .str p.1) (fun σ => σ a = some (.dict kvs ep)) σ
    | _ => False
  | _, _, _ => False
def iOf (ns : List Int) (T : ET) : IT := fun m σ Q => T m σ fun v σ' => iterOf ns v σ' Q
theorem HI.of (O : C.Ok) (hz : C.held = none) {e : Expr} {T : ET} (he : HE C sc k e T) : HI C sc k e (iOf C.ns T) := by
  refine ⟨?_⟩; intro env A s m σ Q P E en ao R F q hP
  refine he.run env A s m σ _ _ E en ao R F q fun v w σ₁ s₁ hv R₁ S₁ q₁ => ?_
  have fr : s.heap.objs.size ≤ s₁.heap.objs.size := S₁.size
  have hn := R₁.freshNone (size_none s₁.heap)
  have Rp : ∀ o, RelG C σ₁ { s₁ with heap := s₁.heap.push o } := fun o => R₁.grow (tk := s₁.toks) push_old
  have Sp : ∀ o, Step no σ σ₁ s.heap (s₁.heap.push o) := fun o => S₁.trans .push
  cases hv with
  | none => exact q₁.elim
  | bool => exact q₁.elim
  | int => exact q₁.elim
  | ty => exact q₁.elim
  | str x t =>
    cases ha : x.cps.all (· < 128)
    · exact wpAny_pyIter_wide ha (hP _ _ _ _ σ₁ _ (it_str hz _ "str_iterator" x t (.inr rfl)) ⟨_, Heap.get?_push_size _ rfl, rfl, rfl⟩ fr hn (Rp _) (Sp _) q₁)
    · exact wpAny_pyIter_ascii ha (hP _ _ _ _ σ₁ _ (it_str hz _ "str_ascii_iterator" x t (.inl rfl)) ⟨_, Heap.get?_push_size _ rfl, rfl, rfl⟩ fr hn (Rp _) (Sp _) q₁)
  | script =>
    obtain ⟨ws, h1, h2, h3⟩ := O.script
    exact wpAny_pyIter_list (h1.at fun o e => R₁.base _ _ e) (hP _ _ _ _ σ₁ _ (it_script O _) ⟨_, Heap.get?_push_size _ rfl, rfl, rfl⟩ fr hn (Rp _) (Sp _) q₁)
  | tup ht hvs =>
    exact wpAny_pyIter_tuple ht (hP _ _ _ _ σ₁ _ (it_tup O _ _ _ _) ⟨⟨_, Heap.get?_push_size _ rfl, rfl, rfl⟩, ht.push _, hvs.keep fun _ _ e _ => push_old _ _ e⟩ fr hn (Rp _) (Sp _) q₁)
  | ref a =>
    simp only [iterOf] at q₁
    split at q₁
    · rename_i xs hx
      obtain ⟨_, ws, h1, h2⟩ := R₁.view a _ hx
      exact wpAny_pyIter_list h1.isList (hP _ _ _ _ σ₁ _ (it_list O _ a xs) ⟨_, Heap.get?_push_size _ rfl, rfl, rfl⟩ fr hn (Rp _) (Sp _) q₁)
    · rename_i kvs ep hx
      obtain ⟨_, kws, h1, h2⟩ := R₁.view a _ hx
      refine wpAny_pyIter_dict (O.noMods (R₁.apart a (by rw [hx]; simp))) h1 (hP _ _ _ _ σ₁ _ (it_dict hz _ a kvs ep) ⟨_, Heap.get?_push_size _ rfl, rfl, by rw [← h2.length]; rfl⟩ fr hn (Rp _) (Sp _) q₁)
    · exact q₁.elim
/-- a list, also while an exception is held -/
def iList (T : ET) : IT := fun m σ Q => T m σ fun v σ' => ∃ a xs, v = .ref a ∧ σ' a = some (.list xs) ∧ Q xs (fun σ => σ a = some (.list xs)) σ'
theorem HI.list (O : C.Ok) {e : Expr} {T : ET} (he : HE C sc k e T) : HI C sc k e (iList T) := by
  refine ⟨?_⟩; intro env A s m σ Q P E en ao R F q hP
  refine he.run env A s m σ _ _ E en ao R F q fun v w σ₁ s₁ hv R₁ S₁ q₁ => ?_
  have fr : s.heap.objs.size ≤ s₁.heap.objs.size := S₁.size
  have hn := R₁.freshNone (size_none s₁.heap)
  obtain ⟨a, xs, rfl, hx, q₁⟩ := q₁
  cases hv
  obtain ⟨_, ws, h1, h2⟩ := R₁.view a _ hx
  exact wpAny_pyIter_list h1.isList (hP _ _ _ _ σ₁ _ (it_list O _ a xs) ⟨_, Heap.get?_push_size _ rfl, rfl, rfl⟩ fr hn (R₁.grow (tk := s₁.toks) push_old) (S₁.trans .push) q₁)
/-- range(n), range(a, b) -/
def rangeOf : List V → View → (List V → (View → Prop) → View → Prop) → Prop
  | [.int n], σ, Q => (-(2 ^ 62) ≤ n ∧ n < 2 ^ 62) ∧ Q (rangeL 0 n.toNat) (fun _ => True) σ
  | [.int a, .int b], σ, Q => (-(2 ^ 62) ≤ a ∧ a < 2 ^ 62 ∧ -(2 ^ 62) ≤ b ∧ b < 2 ^ 62) ∧ Q (rangeL a (b - a).toNat) (fun _ => True) σ
  | _, _, _ => False
def iRange (L : LT) : IT := fun m σ Q => L m σ fun vs σ' => rangeOf vs σ' Q
theorem HI.range (O : C.Ok) (hz : C.held = none) {np pos : Pos} {es : List Expr} {L : LT} (hl : HL C sc k es L) (hp : plainArgs es = true)
    (hn : sc.names.lookup (Str.ofString "range") = some .globalImplicit) (hg : C.mg (Str.ofString "range") = Option.none) (hb : C.mb (Str.ofString "range") = some (.type "range")) :
    HI C sc k (.Call (.Name (Str.ofString "range") np) es [] pos) (iRange L) := by
  refine ⟨?_⟩; intro env A s m σ Q P E en ao R F q hP
  refine wpAny_Call_NameR (Calls.Name_function_global en.k (en.of hn) (Calls.loadGlobal_builtin (mg := C.mg) (mb := C.mb) (by rw [en.globals]; exact O.g.keeps R.base) hg (by rw [en.builtins]; exact O.b.keeps R.base) hb ?_) (by decide))
  refine callWith_type (starEach_any hp) (evalArgs_of hp (hl.run env A s m σ pos _ _ E en ao R F q fun vs ws σ₁ s₁ hv R₁ S₁ q₁ => ?_))
  have fr : s.heap.objs.size ≤ s₁.heap.objs.size + 1 := Nat.le_succ_of_le S₁.size
  have hσ : σ₁ (s₁.heap.objs.size + 1) = Option.none := R₁.freshNone (get_none_of_size (Nat.le_succ _))
  have go : ∀ (a b : Int) (o : Obj) (tk : Nat) (t u v : Tok), -(2 ^ 62) ≤ a → a < 2 ^ 62 → -(2 ^ 62) ≤ b → b < 2 ^ 62 → o = { cls := .type "range", data := .fields #[.int a t, .int b u, .int 1 v] } → Q (rangeL a (b - a).toNat) (fun _ => True) σ₁ →
      wpAny (model C.prog C.w) A (pyIter (.ref s₁.heap.objs.size)) P E { s₁ with heap := s₁.heap.push o, toks := tk } := by
    rintro a b o tk t u v h1 h2 h3 h4 rfl q₁
    refine wpAny_pyIter_range (IsRange.new ..) (small_one h1 h2 h3 h4) ?_
    have hsz : Builtin.Range.rangeSize a b 1 = ((b - a).toNat : Int) := by rw [rangeSize_one]; split <;> omega
    have hit := it_range (C := C) (k := k) hz (s₁.heap.objs.size + 1) a (b - a).toNat
    have R₂ : RelG C σ₁ { s₁ with heap := (s₁.heap.push { cls := .type "range", data := .fields #[.int a t, .int b u, .int 1 v] }).push { cls := .type "range_iterator", data := .fields #[rawInt a, rawInt (Builtin.Range.rangeSize a b 1), rawInt 1] }, toks := tk } :=
      R₁.grow fun _ _ e => push_old _ _ (push_old _ _ e)
    have e := Heap.get?_push_size (s₁.heap.push { cls := .type "range", data := .fields #[.int a t, .int b u, .int 1 v] }) (o := { cls := .type "range_iterator", data := .fields #[rawInt a, rawInt (Builtin.Range.rangeSize a b 1), rawInt 1] }) rfl
    rw [Heap.size_push] at e
    have this := hP _ _ _ _ σ₁ _ hit (by
        show IsRangeIter ((s₁.heap.push { cls := .type "range", data := .fields #[.int a t, .int b u, .int 1 v] }).push { cls := .type "range_iterator", data := .fields #[rawInt a, rawInt (Builtin.Range.rangeSize a b 1), rawInt 1] }) _ _ _ _
        unfold IsRangeIter
        rw [e, hsz]; simp) fr hσ R₂ ((S₁.trans .push).trans .push) q₁
    rw [Heap.size_push]
    exact this
  show wpAny _ A (PySem.call (.type "range") ([] ++ ws)) _ _ _
  rw [List.nil_append]
  unfold rangeOf at q₁
  split at q₁
  · cases hv with | cons h1 r => cases r with | nil => cases h1 with | int n t =>
      refine call_range_1 (go 0 _ _ _ _ _ _ (by decide) (by decide) q₁.1.1 q₁.1.2 rfl ?_)
      rw [Int.sub_zero]; exact q₁.2
  · cases hv with | cons h1 r => cases r with | cons h2 r => cases r with | nil => cases h1 with | int a t => cases h2 with | int b u =>
      exact call_range_2 (go _ _ _ _ _ _ _ q₁.1.1 q₁.1.2.1 q₁.1.2.2.1 q₁.1.2.2.2 rfl q₁.2)
  · exact q₁.elim
end
end Mine


end
noncomputable section
set_option autoImplicit false
namespace Mine
open PySem

/- the closure of a comprehension -/
def clo (cells : List (Str × Addr)) : List (Str × NameKind) → List (Str × Addr) → List (Str × Addr)
  | [], acc => acc
  | (n, q) :: r, acc => if q == .free then clo cells r ((n, (cells.lookup n).getD 0) :: acc) else clo cells r acc
theorem closure_eq {env : Env} {scope : Scope} (h : ∀ p ∈ scope.names, p.2 = .free → ∃ c, env.cells.lookup p.1 = some c) : closureFor scope env = pure (clo env.cells scope.names []) := by
  unfold closureFor
  have key : ∀ (l : List (Str × NameKind)) (acc : List (Str × Addr)), (∀ p ∈ l, p.2 = .free → ∃ c, env.cells.lookup p.1 = some c) →
      (forIn l acc fun p r => (if (p.2 == NameKind.free) = true then do let c ← cellOf env p.1; pure (ForInStep.yield ((p.1, c) :: r)) else pure (ForInStep.yield r) : Sem (ForInStep (List (Str × Addr))))) = pure (clo env.cells l acc) := by
    intro l
    induction l with
    | nil => intro acc _; rfl
    | cons p r ih =>
      intro acc hp
      rw [List.forIn_cons]
      obtain ⟨n, q⟩ := p
      unfold clo
      cases hq : (q == NameKind.free) with
      | true =>
        obtain ⟨c, hc⟩ := hp (n, q) (.head _) (by simpa using hq)
        simp only [cellOf, hc, if_true, pure_bind, Option.getD_some]
        exact ih _ fun p hp' => hp p (.tail _ hp')
      | false =>
        simp only [Bool.false_eq_true, if_false, pure_bind]
        exact ih _ fun p hp' => hp p (.tail _ hp')
  have := key scope.names [] h
  simpa using congrArg (fun t => t >>= fun cs => (pure cs : Sem _)) this
theorem clo_lookup {cells : List (Str × Addr)} : ∀ (l : List (Str × NameKind)) (acc : List (Str × Addr)), (∀ p ∈ l, p.2 = .free → ∃ c, cells.lookup p.1 = some c) → ∀ n,
    ((clo cells l acc).lookup n = if (n, NameKind.free) ∈ l then cells.lookup n else acc.lookup n)
  | [], acc, _, n => by simp [clo]
  | (y, q) :: r, acc, h, n => by
    unfold clo
    have ih := fun acc => clo_lookup r acc (fun p hp => h p (.tail _ hp)) n
    cases hq : (q == NameKind.free) with
    | true =>
      have hq' : q = .free := by simpa using hq
      obtain ⟨c, hc⟩ := h (y, q) (.head _) hq'
      rw [if_pos rfl, ih]
      subst hq'
      by_cases hr : (n, NameKind.free) ∈ r
      · simp [hr]
      · rw [if_neg hr]
        by_cases hy : n = y
        · subst hy; simp [hc]
        · have : (n == y) = false := by simp [hy]
          simp [hr, hy, List.lookup_cons, this]
    | false =>
      have hq' : q ≠ .free := by simpa using hq
      rw [if_neg Bool.false_ne_true, ih]
      have : ((n, NameKind.free) ∈ (y, q) :: r) ↔ (n, NameKind.free) ∈ r := by simp [Ne.symm hq']
      simp [this]
theorem clo_dist {cells : List (Str × Addr)} (hd : cells.Pairwise fun x y => x.2 ≠ y.2) : ∀ (l : List (Str × NameKind)) (acc : List (Str × Addr)), (∀ p ∈ l, p.2 = .free → ∃ c, cells.lookup p.1 = some c) → (l.map (·.1)).Nodup →
    (∀ p ∈ acc, cells.lookup p.1 = some p.2 ∧ p.1 ∉ l.map (·.1)) → acc.Pairwise (fun x y => x.2 ≠ y.2) → (clo cells l acc).Pairwise fun x y => x.2 ≠ y.2
  | [], acc, _, _, _, h => by simpa [clo] using h
  | (y, q) :: r, acc, h, hn, ha, hp => by
    unfold clo
    rw [List.map_cons, List.nodup_cons] at hn
    cases hq : (q == NameKind.free) with
    | true =>
      obtain ⟨c, hc⟩ := h (y, q) (.head _) (by simpa using hq)
      rw [if_pos rfl]
      refine clo_dist hd r _ (fun p hp => h p (.tail _ hp)) hn.2 ?_ ?_
      · intro p hp'
        rcases List.mem_cons.mp hp' with rfl | hp'
        · exact ⟨by simp [hc], hn.1⟩
        · exact ⟨(ha p hp').1, fun z => (ha p hp').2 (.tail _ z)⟩
      · refine List.pairwise_cons.mpr ⟨fun p hp' e => ?_, hp⟩
        rw [hc] at e
        simp only [Option.getD_some] at e
        have := name_of_addr hd (mem_of_lookup hc) (mem_of_lookup (e ▸ (ha p hp').1))
        exact (ha p hp').2 (by rw [← this]; exact .head _)
    | false =>
      rw [if_neg Bool.false_ne_true]
      exact clo_dist hd r acc (fun p hp => h p (.tail _ hp)) hn.2 (fun p hp' => ⟨(ha p hp').1, fun z => (ha p hp').2 (.tail _ z)⟩) hp

/-- the table of a comprehension, as its body sees it -/
def rkind (sc : Scope) (n : Str) (q : NameKind) : NameKind := if (q == .free && sc.kind == .function && sc.names.lookup n == some .cell) then .cell else q
def relS (sc scope : Scope) : Scope := { scope with names := scope.names.map fun p => (p.1, rkind sc p.1 p.2) }
theorem relabel_eq {cs : Scope} {env : Env} : relabel cs env = relS env.scope cs := by
  unfold relabel relS Env.kindOf rkind
  congr 1
  refine List.map_congr_left fun p _ => ?_
  obtain ⟨n, q⟩ := p
  dsimp only
  split <;> rfl
theorem lookup_rel {sc : Scope} : ∀ (l : List (Str × NameKind)) (n : Str), (l.map fun p => (p.1, rkind sc p.1 p.2)).lookup n = (l.lookup n).map (rkind sc n)
  | [], n => rfl
  | (y, q) :: r, n => by
    rw [List.map_cons, List.lookup_cons, List.lookup_cons]
    by_cases hy : n = y
    · subst hy; simp
    · have hb : (n == y) = false := by simp [hy]
      simp only [hb]
      exact lookup_rel r n
theorem relS_free {sc : Scope} {l : List (Str × NameKind)} {n : Str} (h : l.lookup n = some .free) : (l.map fun p => (p.1, rkind sc p.1 p.2)).lookup n = some .cell ∨ (l.map fun p => (p.1, rkind sc p.1 p.2)).lookup n = some .free := by
  rw [lookup_rel, h, Option.map_some]
  unfold rkind
  split
  · exact .inl rfl
  · exact .inr rfl
theorem relS_cell {sc : Scope} {l : List (Str × NameKind)} {n : Str} (h : (l.map fun p => (p.1, rkind sc p.1 p.2)).lookup n = some .cell) : (n, NameKind.free) ∈ l ∨ (n, NameKind.cell) ∈ l := by
  rw [lookup_rel] at h
  obtain ⟨q, hq, e⟩ := Option.map_eq_some_iff.mp h
  unfold rkind at e
  split at e
  · rename_i hc
    have : q = .free := by simp at hc; exact hc.1.1
    subst this
    exact .inl (mem_of_lookup hq)
  · subst e; exact .inr (mem_of_lookup hq)

theorem relS_freeInv {sc : Scope} {l : List (Str × NameKind)} {n : Str} (h : (l.map fun p => (p.1, rkind sc p.1 p.2)).lookup n = some .free) : (n, NameKind.free) ∈ l := by
  rw [lookup_rel] at h
  obtain ⟨q, hq, e⟩ := Option.map_eq_some_iff.mp h
  unfold rkind at e
  split at e
  · cases e
  · subst e; exact mem_of_lookup hq

section
variable {C : Cx} {sc : Scope} {k : Nat}
/-- the tests of a comprehension -/
structure HTs (C : Cx) (sc : Scope) (k : Nat) (ifs : List Expr) (B : BT) : Prop where
  run : ∀ (env : Env) (A : Around) (s : Shared) (m : Loc) (σ : View) (Q : Bool → View → Prop) (P : Bool → Shared → Prop) (E : Value → Shared → Prop),
    EnvOk env sc → AOk C A k → RelG C σ s → FrameRel C env m σ s.heap → B m σ Q →
    (∀ b σ' s', RelG C σ' s' → Step no σ σ' s.heap s'.heap → Q b σ' → P b s') →
    wpAny (model C.prog C.w) A (forIn ifs true fun c r => if r = true then do let ok ← isTrue c env (eval c env); pure (ForInStep.yield ok) else pure (ForInStep.yield r)) P E s
theorem HTs.nil : HTs C sc k [] tT := ⟨fun _ _ s _ σ _ _ _ _ _ R _ q hP => wpAny_tests_nil (hP true σ s R Step.refl q)⟩
theorem HTs.one {c : Expr} {B : BT} (h : HB C sc k c B) : HTs C sc k [c] B := ⟨fun env A s m σ Q P E en ao R F q hP => wpAny_tests_one (h.run env A s m σ Q P E en ao R F q hP)⟩

def only (fv : List String) (m : Loc) : Loc := fun x => if x ∈ fv then m x else Option.none
def compL (g : Tgt) (inv : View → Prop) (B : BT) (T : ET) (m : Loc) : List V → List V → View → (List V → View → Prop) → Prop
  | [], acc, σ, Q => inv σ ∧ Q acc σ
  | v :: r, acc, σ, Q => inv σ ∧ ∃ m', bindT g v m = some m' ∧ B m' σ fun b σ₁ => if b then T m' σ₁ fun y σ₂ => acc.length < 1048576 ∧ compL g inv B T m r (acc ++ [y]) σ₂ Q else compL g inv B T m r acc σ₁ Q
def eComp (fv : List String) (g : Tgt) (I : IT) (B : BT) (T : ET) : ET := fun m σ Q => I m σ fun items inv σ' => compL g inv B T (only fv m) items [] σ' fun ys σ'' => newL ys σ'' Q
def Tgt.names : Tgt → List String
  | .name x => [x]
  | .tup xs => xs
theorem bindM_other : ∀ (xs : List String) (vs : List V) (m : Loc) (y : String), y ∉ xs → bindM xs vs m y = m y
  | [], _, _, _, _ => by simp [bindM]
  | x :: xs, [], _, _, _ => by simp [bindM]
  | x :: xs, v :: vs, m, y, h => by
    simp only [bindM]
    rw [bindM_other xs vs _ y (fun z => h (.tail _ z))]
    exact put_ne (fun z => h (by rw [z]; exact .head _))
theorem bindT_other {g : Tgt} {v : V} {m m' : Loc} (h : bindT g v m = some m') {y : String} (hy : y ∉ g.names) : m' y = m y := by
  cases g with
  | name x => cases h; exact put_ne (fun z => hy (by simp [Tgt.names, z]))
  | tup xs =>
    cases v <;> simp [bindT] at h
    obtain ⟨_, rfl⟩ := h
    exact bindM_other _ _ _ _ hy
theorem FrameRel.weaken {env : Env} {m m' : Loc} {σ : View} {h : Heap} (F : FrameRel C env m' σ h) (hw : ∀ x v, m x = some v → m' x = some v) : FrameRel C env m σ h :=
  ⟨let ⟨mm, h1, h2⟩ := F.ns; ⟨mm, h1, fun x v e q => h2 x v (hw x v e) q⟩, fun x v e => F.cel x v (hw x v e), F.cells, F.sepL, F.baseL, F.baseC, F.dist, F.has⟩

/-- one turn of a comprehension's loop, the target any -/
theorem compLoop_any {A : Around} {R : Result → Shared → Prop} {s : Shared} {elt target iter : Expr} {ifs : List Expr} {scope : Scope} {pos : Pos} {it acc : Value} {env : Env} (I : Nat → Shared → Prop)
    (turn : ∀ n s, I n s → wpAny (model C.prog C.w) A (pyNext it) (fun r s₁ => match r with
      | Option.none => R (.ok .next) s₁
      | some v => wpAny (model C.prog C.w) A (letOwnedTupleGo target it v) (fun _ s₁' => wpAny (model C.prog C.w) A (assign target env v) (fun _ s₂ =>
          wpAny (model C.prog C.w) A (forIn ifs true fun c r => if r = true then do let ok ← isTrue c env (eval c env); pure (ForInStep.yield ok) else pure (ForInStep.yield r)) (fun ok s₃ =>
            if ok = true then wpAny (model C.prog C.w) A (eval elt env) (fun x s₄ =>
              wpAny (model C.prog C.w) A (call (.builtin "list.append") [acc, x]) (fun _ s₅ => ∃ m, m < n ∧ I m s₅) (notedBy (model C.prog C.w) A env fun e s' => R (.error e) s') s₄) (notedBy (model C.prog C.w) A env fun e s' => R (.error e) s') s₃
            else ∃ m, m < n ∧ I m s₃) (notedBy (model C.prog C.w) A env fun e s' => R (.error e) s') s₂) (notedBy (model C.prog C.w) A env fun e s' => R (.error e) s') s₁') (notedBy (model C.prog C.w) A env fun e s' => R (.error e) s') s₁) (notedBy (model C.prog C.w) A env fun e s' => R (.error e) s') s)
    (n : Nat) (h : I n s) : codeAny (model C.prog C.w) A (.compLoop (.ListComp elt [⟨target, iter, ifs, 0⟩] scope pos) 0 it acc env) R s := by
  refine codeAny_loop rfl I (fun n s hI => ?_) n h
  show wpAny _ A ((compTurn (.ListComp elt [⟨target, iter, ifs, 0⟩] scope pos) 0 it acc env).onRaise (fun x => do noteFrame x env; theTreesLotGoes x)) _ _ s
  refine wpAny_noted ?_
  rw [compTurn_list]
  refine wpAny_bind (wpAny_standAt (wpAny_bind (wpAny_mono (turn n s hI) (fun r s₁ h₁ => ?_) fun _ _ h' => h')))
  cases r with
  | none => exact wpAny_pure h₁
  | some v =>
    refine wpAny_bind (wpAny_mono h₁ (fun _ s₁' h₁' => ?_) fun _ _ h' => h')
    refine wpAny_bind (wpAny_mono h₁' (fun _ s₂ h₂ => wpAny_bind (wpAny_mono h₂ (fun ok s₃ h₃ => ?_) fun _ _ h' => h')) fun _ _ h' => h')
    cases ok with
    | false => exact wpAny_pure ⟨rfl, h₃⟩
    | true => exact wpAny_bind (wpAny_bind (wpAny_mono h₃ (fun x s₄ h₄ => wpAny_bind (wpAny_mono h₄ (fun _ s₅ h₅ => wpAny_pure (wpAny_pure ⟨rfl, h₅⟩)) fun _ _ h' => h')) fun _ _ h' => h'))

/-- the side facts of a comprehension's tables -/
structure CompOk (sc cs : Scope) (fv : List String) (g : Tgt) : Prop where
  kind : cs.kind = .function
  nocell : ∀ y ∈ cs.names, y.2 ≠ .cell
  names : ∀ y ∈ cs.names, y.2 = .local → cs.names.lookup y.1 = some .local
  nodup : (cs.names.map (·.1)).Nodup
  frees : ∀ p ∈ cs.names, p.2 = .free → ∃ x ∈ fv, Str.ofString x = p.1
  frs : ∀ x ∈ fv, (Str.ofString x, NameKind.free) ∈ cs.names ∧ (sc.names.lookup (Str.ofString x) = some .cell ∨ sc.names.lookup (Str.ofString x) = some .free)
  tgt : ∀ x ∈ g.names, x ∉ fv
/-- every cell of the table is there -/
def FrameHas (env : Env) (x : String) : Prop := ∃ c, env.cells.lookup (Str.ofString x) = some c

theorem mem_lookup_nodup {α : Type} : ∀ {l : List (Str × α)} {n : Str} {c : α}, (l.map (·.1)).Nodup → (n, c) ∈ l → l.lookup n = some c
  | p :: r, n, c, hn, hm => by
    rw [List.map_cons, List.nodup_cons] at hn
    rcases List.mem_cons.mp hm with e | hm
    · subst e; simp
    · have : n ≠ p.1 := fun e => hn.1 (e ▸ List.mem_map_of_mem hm)
      rw [List.lookup_cons, show (n == p.1) = false by simp [this]]
      exact mem_lookup_nodup hn.2 hm

/-- the body of a comprehension, from the made iterator on -/
theorem plain_nd {h : Heap} {a : Addr} {xs : Array Value} (hp : h.PlainList a xs) (o : Obj) (e : h.get? a = some o) : ∀ es ep, o.data ≠ .dict es ep := by
  obtain ⟨n, hn⟩ := hp
  rw [hn] at e; cases e
  intro es ep z; cases z
theorem comp_core {env : Env} {A : Around} {s₀ s₂ : Shared} {m : Loc} {σ₀ σ₂ : View} {elt iter target : Expr} {ifs : List Expr} {cs : Scope} {pos : Pos} {fv : List String} {g : Tgt} {B : BT} {T : ET} {I : Addr} {items : List V} {inv : View → Prop} {St : Nat → Heap → Prop}
    {Q : List V → View → Prop} {RR : Value → Addr → Result → Shared → Prop} {E : Value → Shared → Prop}
    (ok : CompOk sc cs fv g) (hhas : ∀ x ∈ fv, FrameHas env x) (ht : HT C (relS sc cs) k true target g) (hB : HTs C (relS sc cs) k ifs B) (hT : HE C (relS sc cs) k elt T)
    (en : EnvOk env sc) (ao : AOk C A k) (R₀ : RelG C σ₀ s₀) (S : Step no σ₀ σ₂ s₀.heap s₂.heap) (R₂ : RelG C σ₂ s₂) (F : FrameRel C env m σ₂ s₂.heap) (hit : It C k I items inv St) (st : St 0 s₂.heap) (hI : s₀.heap.objs.size ≤ I) (hσI : σ₂ I = Option.none)
    (q : compL g inv B T (only fv m) items [] σ₂ Q)
    (hRR : ∀ D C' ys ws mm σ' s', Heap.Ns s'.heap C' mm → s₂.heap.objs.size ≤ C' → s₂.heap.objs.size ≤ D → D ≠ C' → σ' D = Option.none → σ' C' = Option.none → s'.heap.PlainList D (List.toArray ws) → VRels C.aS s'.heap ys ws → RelG C σ' s' →
      ys.length ≤ 1048576 → Step no σ₀ σ' s₀.heap s'.heap → Step (fun b => b = I) σ₂ σ' s₂.heap s'.heap → Q ys σ' → RR (.ref D) C' (.ok .next) s') :
    wpAny (model C.prog C.w) A (newList []) (fun acc s₃ => wpAny (model C.prog C.w) A (newFunctionEnv cs env.globals (clo env.cells cs.names []) [] env.qual Option.none .none (some env)) (fun cenv s₄ =>
      codeAny (model C.prog C.w) A (.compStart (.ListComp elt [⟨target, iter, ifs, 0⟩] cs pos) 0 (.ref I) acc { cenv with scope := relabel cs env }) (RR acc cenv.locals) s₄) E s₃) E s₂ := by
  have hfree : ∀ p ∈ cs.names, p.2 = .free → ∃ c, env.cells.lookup p.1 = some c := fun p hp hq => by
    obtain ⟨x, hx, e⟩ := ok.frees p hp hq
    rw [← e]; exact hhas x hx
  refine wpAny_newObj_type (wpAny_newFunctionEnv ok.nocell (by intro y hy; simp at hy) (fun h₁ hns₁ hsb₁ => ?_) ok.kind)
  dsimp only at hns₁ hsb₁ ⊢
  generalize hH2 : s₂.heap.push { cls := .type "list", dict := Option.none, data := .seq ([] : List Value).toArray } = H2 at hns₁ hsb₁ ⊢
  have hC : H2.objs.size = s₂.heap.objs.size + 1 := by rw [← hH2, Heap.size_push]
  have hDC : s₂.heap.objs.size ≠ H2.objs.size := by rw [hC]; exact Nat.ne_of_lt (Nat.lt_succ_self _)
  have old : ∀ b o, s₂.heap.get? b = some o → h₁.get? b = some o := fun b o e => hsb₁.extBut b o (by rw [hC]; exact Nat.ne_of_lt (Nat.lt_succ_of_lt (Heap.lt_size e))) (Heap.get?_push_of_some _ (hH2 ▸ Heap.get?_push_of_some _ e))
  have hacc : h₁.PlainList s₂.heap.objs.size (List.toArray []) := ⟨_, hsb₁.extBut _ _ hDC (Heap.get?_push_of_some _ (hH2 ▸ Heap.get?_push_size _ rfl))⟩
  have hsz₁ : h₁.objs.size = s₂.heap.objs.size + 2 := by rw [hsb₁.1, Heap.size_push, hC]
  have R₁ : RelG C σ₂ { s₂ with heap := h₁, toks := s₂.toks + ([] : List (Str × Value)).length } := R₂.grow old
  have cl := clo_lookup (cells := env.cells) cs.names [] hfree
  have kindF : ∀ x ∈ fv, (relS sc cs).names.lookup (Str.ofString x) = some .cell ∨ (relS sc cs).names.lookup (Str.ofString x) = some .free := fun x hx =>
    relS_free (mem_lookup_nodup ok.nodup (ok.frs x hx).1)
  have hLC : (compEnvC cs (clo env.cells cs.names []) H2.objs.size env).locals = H2.objs.size := rfl
  have eS : (compEnvC cs (clo env.cells cs.names []) H2.objs.size env).scope = relS sc cs := by show relabel cs env = _; rw [relabel_eq, en.scope]
  have eCl : (compEnvC cs (clo env.cells cs.names []) H2.objs.size env).cells = clo env.cells cs.names [] := rfl
  have enC : EnvOk (compEnvC cs (clo env.cells cs.names []) H2.objs.size env) (relS sc cs) := ⟨eS, ok.kind, en.globals, en.builtins⟩
  have memF : ∀ n c, (clo env.cells cs.names []).lookup n = some c → (n, NameKind.free) ∈ cs.names ∧ env.cells.lookup n = some c := fun n c e => by
    rw [cl n] at e
    split at e
    · exact ⟨by assumption, e⟩
    · simp at e
  have kc : ∀ c v, s₂.heap.IsCell c v → h₁.IsCell c v := fun c v ⟨o, ho, hd⟩ => ⟨o, old c o ho, hd⟩
  have F₁ : FrameRel C (compEnvC cs (clo env.cells cs.names []) H2.objs.size env) (only fv m) σ₂ h₁ := by
    refine ⟨⟨_, hns₁, fun x v e kx => ?_⟩, fun x v e => ?_, fun n c e => ?_, R₂.freshNone (get_none_of_size (by rw [hLC, hC]; exact Nat.le_succ _)), R₂.baseNone (get_none_of_size (by rw [hLC, hC]; exact Nat.le_succ _)), fun n c e => ?_, ?_, fun n e => ?_⟩
    · unfold only at e
      split at e
      · rename_i hx
        rcases kindF x hx with z | z <;> (rw [enC.of z] at kx; cases kx)
      · cases e
    · unfold only at e
      split at e
      · rename_i hx
        rcases F.cel x v e with z | ⟨z, c, w, h1, h2, h3⟩
        · exfalso
          rcases (ok.frs x hx).2 with y | y <;> (rw [en.of y] at z; cases z)
        · refine .inr ⟨?_, c, w, ?_, kc _ _ h2, h3.keep fun b o e _ => old b o e⟩
          · exact (kindF x hx).imp (fun z => enC.of z) fun z => enC.of z
          · rw [eCl, cl, if_pos (ok.frs x hx).1]; exact h1
      · cases e
    · obtain ⟨v, hv⟩ := F.cells n c (memF n c e).2
      exact ⟨v, kc _ _ hv⟩
    · exact F.baseC n c (memF n c e).2
    · exact clo_dist F.dist cs.names [] hfree ok.nodup (fun p hp => by cases hp) List.Pairwise.nil
    · have go : (n, NameKind.free) ∈ cs.names → ∃ c, (clo env.cells cs.names []).lookup n = some c := fun z => by
        obtain ⟨c, hc⟩ := hfree _ z rfl
        exact ⟨c, by rw [cl, if_pos z]; exact hc⟩
      rcases e with e | e
      · have e' : (relS sc cs).names.lookup n = some .cell := by unfold Env.kindOf at e; rw [eS] at e; exact e
        rcases relS_cell e' with z | z
        · exact go z
        · exact absurd rfl (ok.nocell _ z)
      · have e' : (relS sc cs).names.lookup n = some .free := by unfold Env.kindOf at e; rw [eS] at e; exact e
        exact go (relS_freeInv e')
  have hI2 : I < s₂.heap.objs.size := by obtain ⟨o, ho, _⟩ := hit.live _ _ st; exact Heap.lt_size ho
  have st₁ : St 0 h₁ := hit.frame _ _ _ st (fun o e => old I o e) (fun b o e _ => old b o e)
  have S₁ : Step (fun b => b = I ∨ b = s₂.heap.objs.size ∨ b = H2.objs.size) σ₂ σ₂ s₂.heap h₁ := .grow old (by rw [hsz₁]; omega)
  have hσD : σ₂ s₂.heap.objs.size = Option.none := R₂.freshNone (size_none _)
  have hIb : C.hB.get? I = Option.none := R₀.baseNone (get_none_of_size hI)
  have hIL : I ≠ H2.objs.size := by rw [hC]; exact Nat.ne_of_lt (Nat.lt_succ_of_lt hI2)
  have wk : ∀ {v m'}, bindT g v (only fv m) = some m' → ∀ x u, only fv m x = some u → m' x = some u := fun hb x u e => by
    rw [bindT_other hb]; exact e
    intro hx
    unfold only at e
    rw [if_neg (ok.tgt x hx)] at e; cases e
  have loop : ∀ s₃ : Shared, s₃ = { s₂ with heap := h₁, toks := s₂.toks + ([] : List (Str × Value)).length } →
      codeAny (model C.prog C.w) A (.compLoop (.ListComp elt [⟨target, iter, ifs, 0⟩] cs pos) 0 (.ref I) (.ref s₂.heap.objs.size) (compEnvC cs (clo env.cells cs.names []) H2.objs.size env)) (RR (.ref s₂.heap.objs.size) H2.objs.size) s₃ := by
    rintro s₃ rfl
    generalize compEnvC cs (clo env.cells cs.names []) H2.objs.size env = cenv at hLC eS eCl enC F₁ ⊢
    refine compLoop_any
      (fun n s' => ∃ i ys ws σ' rest, items.drop i = rest ∧ i ≤ items.length ∧ n = rest.length + 1 ∧ St i s'.heap ∧ σ' I = Option.none ∧ σ' s₂.heap.objs.size = Option.none ∧ RelG C σ' s' ∧ FrameRel C cenv (only fv m) σ' s'.heap ∧
        s'.heap.PlainList s₂.heap.objs.size (List.toArray ws) ∧ VRels C.aS s'.heap ys ws ∧ ys.length ≤ 1048576 ∧ Step (fun b => b = I ∨ b = s₂.heap.objs.size ∨ b = H2.objs.size) σ₂ σ' s₂.heap s'.heap ∧ compL g inv B T (only fv m) rest ys σ' Q) ?_ _
      ⟨0, [], [], σ₂, items, by simp, by simp, rfl, st₁, hσI, hσD, R₁, F₁, hacc, .nil, by simp, S₁, q⟩
    rintro n s' ⟨i, ys, ws, σ', rest, e1, e2, rfl, st', hσ', hσD', R', F', hp', hv', hl', S', q'⟩
    have nT : ∀ o, s'.heap.get? s₂.heap.objs.size = some o → ¬ IsT o ∧ ∀ v, o.data ≠ .cell v := fun o ho => by
      obtain ⟨n, hn⟩ := hp'; rw [hn] at ho; cases ho; exact ⟨by simp [IsT], by simp⟩
    have drew : ∀ {h' : Heap}, Heap.ExtBut I s'.heap h' → s'.heap.objs.size ≤ h'.objs.size → Step (fun b => b = I ∨ b = s₂.heap.objs.size ∨ b = H2.objs.size) σ' σ' s'.heap h' := fun hx hsz =>
      .of (fun b o e _ q => hx b o (fun z => q (.inl z)) e) hsz fun _ a b => absurd a b
    have ktI : ∀ {h' : Heap}, Heap.ExtBut I s'.heap h' → TupKeep s'.heap h' := fun hx b o e ht => hx b o (by
      rintro rfl; obtain ⟨oI, hoI, hT, _⟩ := hit.live _ _ st'; rw [hoI] at e; cases e; exact hT ht) e
    cases rest with
    | nil =>
      have hil : i = items.length := by
        have := congrArg List.length e1
        simp at this; omega
      subst hil
      refine with_size (hit.done A σ' s' _ _ ao R' q'.1 st' fun h' tk hx hsz => ?_)
      have R₃ := draw_rel (tk := tk) R' hx hσ' hIb (hit.live _ _ st')
      have F₃ := draw_frame F' hx (hit.live _ _ st') (by rw [hLC]; exact hIL)
      have S₃ := S'.trans (drew hx hsz)
      obtain ⟨mm, hmm, _⟩ := F₃.ns
      rw [hLC] at hmm
      have sep := F₃.sepL
      rw [hLC] at sep
      refine hRR _ _ ys ws mm σ' _ hmm (by rw [hC]; exact Nat.le_succ _) (Nat.le_refl _) hDC hσD' sep (hp'.extBut hx (Nat.ne_of_gt hI2)) (hv'.keep (ktI hx)) R₃ hl' (((S.mono fun _ _ _ z => z.elim).trans S₃).mono fun b o e z => ?_) (S₃.mono fun b o e z => ?_) q'.2
      · have := Heap.lt_size e
        have hh := S.size
        rcases z with z | z | z
        · exact absurd this (by rw [z]; exact Nat.not_lt.mpr hI)
        · exact absurd this (by rw [z]; exact Nat.not_lt.mpr hh)
        · exact absurd this (by rw [z, hC]; exact Nat.not_lt.mpr (Nat.le_succ_of_le hh))
      · have := Heap.lt_size e
        rcases z with z | z | z
        · exact z
        · exact absurd this (by rw [z]; exact Nat.lt_irrefl _)
        · exact absurd this (by rw [z, hC]; exact Nat.not_lt.mpr (Nat.le_succ _))
    | cons v r =>
      obtain ⟨hinv, m₁, hm₁, q'⟩ := q'
      have hiv : items[i]? = some v := by
        have : (items.drop i)[0]? = some v := by rw [e1]; rfl
        simpa using this
      have hilt : i < items.length := by
        have := congrArg List.length e1
        simp at this; omega
      refine with_size (hit.next A σ' s' i v _ _ ao R' hinv st' hiv fun w h₂ tk₂ hv st₂ hx hsz => ?_)
      have R₃ := draw_rel (tk := tk₂) R' hx hσ' hIb (hit.live _ _ st')
      have F₃ := draw_frame F' hx (hit.live _ _ st') (by rw [hLC]; exact hIL)
      have S₃ := S'.trans (drew hx hsz)
      have hp₃ := hp'.extBut hx (Nat.ne_of_gt hI2)
      have hv₃ := hv'.keep (ktI hx)
      refine hit.own A _ (i + 1) target w _ _ st₂ ?_
      refine ht.run cenv A _ (only fv m) m₁ σ' v w _ _ enC ao R₃ F₃ hv hm₁ fun s₄ R₄ F₄ S₄ => ?_
      have S₄' : Step (fun b => b = H2.objs.size) σ' σ' h₂ s₄.heap := S₄.mono fun b _ _ z => z.elim (fun z => by rw [hLC] at z; exact z) fun z => by cases z.1
      have kt₄ : TupKeep h₂ s₄.heap := S₄'.tups (s := { s' with heap := h₂, toks := tk₂ }) R₃ fun b o z e => by
        subst z; rw [← hLC] at e; exact F₃.ownT _ o (.inl rfl) e
      have st₄ : St (i + 1) s₄.heap := hit.frame _ _ _ st₂ (fun o e => S₄'.keep I o e hσ' hIL (hit.flds _ _ st₂ o e)) kt₄
      have hp₄ : s₄.heap.PlainList s₂.heap.objs.size (List.toArray ws) := hp₃.at fun o e => S₄'.keep _ o e hσD' hDC (plain_nd hp₃ o e)
      have hv₄ := hv₃.keep kt₄
      have S₅ : Step (fun b => b = I ∨ b = s₂.heap.objs.size ∨ b = H2.objs.size) σ₂ σ' s₂.heap s₄.heap := S₃.trans (S₄'.mono fun _ _ _ z => .inr (.inr z))
      refine hB.run cenv A s₄ m₁ σ' _ _ _ enC ao R₄ F₄ q' fun b σ₅ s₅ R₅ Sb q₅ => ?_
      have sepI : ∀ {σa σb : View} {sa : Shared} {hb : Heap}, Step no σa σb sa.heap hb → St (i + 1) sa.heap → σa I = Option.none → σb I = Option.none := fun {σa σb sa hb} Sx stx hx => by
        cases z : σb I with
        | none => rfl
        | some o =>
          obtain ⟨o', ho', _⟩ := hit.live _ _ stx
          exact absurd (Heap.lt_size ho') (Nat.not_lt.mpr (Sx.new I hx (by rw [z]; simp)))
      have sepD : ∀ {σa σb : View} {sa : Shared} {hb : Heap}, Step no σa σb sa.heap hb → sa.heap.PlainList s₂.heap.objs.size (List.toArray ws) → σa s₂.heap.objs.size = Option.none → σb s₂.heap.objs.size = Option.none := fun {σa σb sa hb} Sx hpx hx => by
        cases z : σb s₂.heap.objs.size with
        | none => rfl
        | some o =>
          obtain ⟨n', hn'⟩ := hpx
          exact absurd (Heap.lt_size hn') (Nat.not_lt.mpr (Sx.new _ hx (by rw [z]; simp)))
      have st₅ : St (i + 1) s₅.heap := hit.frame _ _ _ st₄ (fun o e => Sb.keep I o e hσ' (fun z => z) (hit.flds _ _ st₄ o e)) (Sb.tupsN R₄)
      have hp₅ : s₅.heap.PlainList s₂.heap.objs.size (List.toArray ws) := hp₄.at fun o e => Sb.keep _ o e hσD' (fun z => z) (plain_nd hp₄ o e)
      have hv₅ := hv₄.keep (Sb.tupsN R₄)
      have F₅ := F₄.step R₄ Sb
      have hσ₅ := sepI Sb st₄ hσ'
      have hσD₅ := sepD Sb hp₄ hσD'
      have S₆ := S₅.trans (Sb.mono fun _ _ _ z => z.elim)
      have dr : items.drop (i + 1) = r := by rw [← List.tail_drop, e1]; rfl
      cases b with
      | false =>
        simp only [Bool.false_eq_true, if_false] at q₅ ⊢
        exact ⟨r.length + 1, by simp, i + 1, ys, ws, σ₅, r, dr, hilt, rfl, st₅, hσ₅, hσD₅, R₅, F₅.weaken (wk hm₁), hp₅, hv₅, hl', S₆, q₅⟩
      | true =>
        simp only [if_true] at q₅ ⊢
        refine hT.run cenv A s₅ m₁ σ₅ _ _ _ enC ao R₅ F₅ q₅ fun y wy σ₆ s₆ hy R₆ Sc q₆ => ?_
        obtain ⟨hlen, q₆⟩ := q₆
        have st₆ : St (i + 1) s₆.heap := hit.frame _ _ _ st₅ (fun o e => Sc.keep I o e hσ₅ (fun z => z) (hit.flds _ _ st₅ o e)) (Sc.tupsN R₅)
        have hp₆ : s₆.heap.PlainList s₂.heap.objs.size (List.toArray ws) := hp₅.at fun o e => Sc.keep _ o e hσD₅ (fun z => z) (plain_nd hp₅ o e)
        have hv₆ := hv₅.keep (Sc.tupsN R₅)
        have hσ₆ := sepI Sc st₅ hσ₅
        have hσD₆ := sepD Sc hp₅ hσD₅
        have F₆ := F₅.step R₅ Sc
        refine wpAny_list_append_plain hp₆ (fun h₇ hp₇ hs₇ => ?_) (by rw [List.size_toArray, ← hv₆.length, sizeLine_eq]; omega)
        have nD : ∀ o, s₆.heap.get? s₂.heap.objs.size = some o → ¬ IsT o ∧ ∀ v, o.data ≠ .cell v := fun o ho => by
          obtain ⟨n, hn⟩ := hp₆; rw [hn] at ho; cases ho; exact ⟨by simp [IsT], by simp⟩
        obtain ⟨oD, hoD⟩ : ∃ o, s₆.heap.get? s₂.heap.objs.size = some o := let ⟨n, hn⟩ := hp₆; ⟨_, hn⟩
        have kt₇ : TupKeep s₆.heap h₇ := fun b o e ht => hs₇.extBut b o (by rintro rfl; exact (nD o e).1 ht) e
        have R₇ : RelG C σ₆ { s₆ with heap := h₇ } := draw_rel (tk := s₆.toks) R₆ hs₇.extBut hσD₆ (R₂.baseNone (size_none _)) ⟨oD, hoD, nD oD hoD⟩
        have F₇ : FrameRel C cenv m₁ σ₆ h₇ := draw_frame F₆ hs₇.extBut ⟨oD, hoD, nD oD hoD⟩ (by rw [hLC]; exact hDC)
        have st₇ : St (i + 1) h₇ := hit.frame _ _ _ st₆ (fun o e => hs₇.extBut I o (Nat.ne_of_lt hI2) e) kt₇
        refine ⟨r.length + 1, by simp, i + 1, ys ++ [y], ws ++ [wy], σ₆, r, dr, hilt, rfl, st₇, hσ₆, hσD₆, R₇, F₇.weaken (wk hm₁), by simpa using hp₇, (hv₆.append (.cons hy .nil)).keep kt₇, by simp; omega, (S₆.trans (Sc.mono fun _ _ _ z => z.elim)).trans ?_, q₆⟩
        exact .of (fun b o e _ q => hs₇.extBut b o (fun z => q (.inr (.inl z))) e) (Nat.le_of_eq hs₇.1.symm) fun _ a b => absurd a b
  exact codeAny_compStart_list (loop _ rfl) (hit.self A _ 0 _ _ st₁ (loop _ rfl))

theorem has_fv {env : Env} {m : Loc} {σ : View} {h : Heap} {cs : Scope} {fv : List String} {g : Tgt} (ok : CompOk sc cs fv g) (en : EnvOk env sc) (F : FrameRel C env m σ h) : ∀ x ∈ fv, FrameHas env x := fun x hx =>
  F.has _ ((ok.frs x hx).2.imp (fun z => en.of z) fun z => en.of z)
/-- a list that stood outside of the view enters it -/
theorem RelG.enter {σ : View} {s : Shared} {D : Addr} {o : AObj} (R : RelG C σ s) (hD : C.hB.get? D = Option.none) (ho : ObjRel C s.heap D o) : RelG C (upd σ D o) s :=
  ⟨R.rest, R.base, fun a o' e => by
    by_cases h : a = D
    · subst h; rw [upd_same] at e; cases e; exact ho
    · rw [upd_ne h] at e; exact R.view a o' e,
   fun a ha => by
    by_cases h : a = D
    · subst h; exact hD
    · rw [upd_ne h] at ha; exact R.apart a ha⟩
theorem Step.enter {own : Addr → Prop} {σ σ' : View} {h h' : Heap} {D : Addr} {o : AObj} (S : Step own σ σ' h h') (hD : h.objs.size ≤ D) : Step own σ (upd σ' D o) h h' :=
  ⟨S.keepL, S.size, fun b n z => by
    by_cases hb : b = D
    · subst hb; exact hD
    · rw [upd_ne hb] at z; exact S.new b n z⟩
theorem HE.comp {elt iter target : Expr} {ifs : List Expr} {cs : Scope} {pos : Pos} {fv : List String} {g : Tgt} {I : IT} {B : BT} {T : ET} (ok : CompOk sc cs fv g)
    (hi : HI C sc k iter I) (ht : HT C (relS sc cs) k true target g) (hB : HTs C (relS sc cs) k ifs B) (hT : HE C (relS sc cs) k elt T) (hf : ∀ env x, foldedSetIterable iter env x = pure x) :
    HE C sc k (.ListComp elt [⟨target, iter, ifs, 0⟩] cs pos) (eComp fv g I B T) := by
  refine ⟨?_⟩; intro env A s m σ Q P E en ao R F q hP
  have hfree : ∀ p ∈ cs.names, p.2 = .free → ∃ c, env.cells.lookup p.1 = some c := fun p hp hq => by
    obtain ⟨x, hx, e⟩ := ok.frees p hp hq
    rw [← e]; exact has_fv ok en F x hx
  rw [eval_ListComp]
  refine wpAny_comprehension_free (use := Option.none) rfl (hf env) (closure_eq hfree) ok.kind ok.names (hi.run env A s m σ _ _ E en ao R F q fun items inv I St σ₂ s₂ hit st hI hσI R₂ S₂ q₂ => ?_)
  refine comp_core (RR := fun acc C' => compPost (model C.prog C.w) A E Option.none P acc C') ok (has_fv ok en F) ht hB hT en ao R S₂ R₂ (F.step R S₂) hit st hI hσI q₂ ?_
  intro D C' ys ws mm σ' s' hmm hC' hD hDC hσD hσC hp hv R' hly S' SI q'
  refine ⟨mm, hmm, fun h'' hs'' => ?_⟩
  have nT : ∀ o, s'.heap.get? C' = some o → ¬ IsT o ∧ ∀ v, o.data ≠ .cell v := fun o ho => by
    obtain ⟨o', es, ep, ho', hd', _⟩ := hmm; rw [ho'] at ho; cases ho; exact ⟨by simp [IsT, hd'], by simp [hd']⟩
  obtain ⟨oC, hoC⟩ : ∃ o, s'.heap.get? C' = some o := let ⟨o', _, _, ho', _⟩ := hmm; ⟨o', ho'⟩
  have hC0 : s.heap.objs.size ≤ C' := Nat.le_trans S₂.size hC'
  have hD0 : s.heap.objs.size ≤ D := Nat.le_trans S₂.size hD
  have kt : TupKeep s'.heap h'' := fun b o e ht => hs''.extBut b o (by rintro rfl; exact (nT o e).1 ht) e
  have R₃ : RelG C σ' { s' with heap := h'' } := draw_rel (tk := s'.toks) R' hs''.extBut hσC (R.baseNone (get_none_of_size hC0)) ⟨oC, hoC, nT oC hoC⟩
  have R₄ := R₃.enter (D := D) (o := .list ys) (R.baseNone (get_none_of_size hD0)) ⟨by omega, ws, hp.extBut hs''.extBut hDC, hv.keep kt⟩
  have S₃ : Step (fun b => b = C') σ' σ' s'.heap h'' := .of (fun b o e _ q => hs''.extBut b o q e) (Nat.le_of_eq hs''.1.symm) fun _ a b => absurd a b
  have S₄ : Step no σ σ' s.heap h'' := ((S'.mono fun _ _ _ z => z.elim).trans S₃).mono fun b o e z => absurd (Heap.lt_size e) (by rw [z]; exact Nat.not_lt.mpr hC0)
  exact hP _ _ _ _ (.ref D) R₄ (S₄.enter hD0) (q' D hσD)
/-- x = [..] where the model stores into x ahead of letting the loop's names go -/
theorem HS1.setComp {elt iter target : Expr} {ifs : List Expr} {cs : Scope} {pos p spos : Pos} {x : String} {fv : List String} {g : Tgt} {I : IT} {B : BT} {T : ET} (ok : CompOk sc cs fv g)
    (hi : HI C sc k iter I) (ht : HT C (relS sc cs) k true target g) (hB : HTs C (relS sc cs) k ifs B) (hT : HE C (relS sc cs) k elt T) (hf : ∀ env x, foldedSetIterable iter env x = pure x)
    (hx : sc.names.lookup (Str.ofString x) = some .local) (hsw : ∀ env, EnvOk env sc → swapsWith (.ListComp elt [⟨target, iter, ifs, 0⟩] cs pos) (some (.Name (Str.ofString x) p)) spos.line env = pure true) :
    HS1 C sc k (.Assign [.Name (Str.ofString x) p] (.ListComp elt [⟨target, iter, ifs, 0⟩] cs pos) spos) (sSet x (eComp fv g I B T)) := by
  refine ⟨?_⟩; intro env A s m σ Q P E en ao R F q hP
  have hfree : ∀ p ∈ cs.names, p.2 = .free → ∃ c, env.cells.lookup p.1 = some c := fun p hp hq => by
    obtain ⟨x, hx, e⟩ := ok.frees p hp hq
    rw [← e]; exact has_fv ok en F x hx
  rw [exec_Assign_Name_used _ _ _ _ (hsw env en)]
  refine wpAny_bind (wpAny_standAt (wpAny_bind ?_))
  show wpAny _ A (do let _ ← comprehension (.ListComp elt [⟨target, iter, ifs, 0⟩] cs pos) cs env _ (newList []) false (eval iter env) (some (assign (.Name (Str.ofString x) p) env))) _ _ s
  refine wpAny_bind (wpAny_mono (wpAny_comprehension_free (use := some (assign (.Name (Str.ofString x) p) env)) (Q := fun _ s' => P .next s') rfl (hf env) (closure_eq hfree) ok.kind ok.names (hi.run env A s m σ _ _ E en ao R F q fun items inv I St σ₂ s₂ hit st hI hσI R₂ S₂ q₂ => ?_))
    (fun _ s' hq => wpAny_pure (wpAny_pure hq)) fun _ _ e => e)
  refine comp_core (RR := fun acc C' => compPost (model C.prog C.w) A E (some (assign (.Name (Str.ofString x) p) env)) (fun _ s' => P .next s') acc C') ok (has_fv ok en F) ht hB hT en ao R S₂ R₂ (F.step R S₂) hit st hI hσI q₂ ?_
  intro D C' ys ws mm σ' s' hmm hC' hD hDC hσD hσC hp hv R' hly S' SI q'
  have hC0 : s.heap.objs.size ≤ C' := Nat.le_trans S₂.size hC'
  have hD0 : s.heap.objs.size ≤ D := Nat.le_trans S₂.size hD
  have R₃ := R'.enter (D := D) (o := .list ys) (R.baseNone (get_none_of_size hD0)) ⟨by omega, ws, hp, hv⟩
  have S₃ := S'.enter (o := .list ys) hD0
  have F₃ := F.step R S₃
  have hCL : C' ≠ env.locals := fun e => by
    obtain ⟨mL, hmL, _⟩ := F.ns
    exact absurd hmL.lt (by rw [← e]; exact Nat.not_lt.mpr hC0)
  refine wpAny_assign_Name (store_local en R₃ F₃ hx (.ref D) fun s₄ R₄ F₄ S₄ => ?_)
  have hσ₃C : upd σ' D (.list ys) C' = Option.none := by rw [upd_ne (Ne.symm hDC)]; exact hσC
  have hmm4 : s₄.heap.Ns C' mm := Like.ns hmm fun o e => S₄.keepL C' o e hσ₃C hCL
  refine ⟨mm, hmm4, fun h'' hs'' => ?_⟩
  have nT : ∀ o, s₄.heap.get? C' = some o → ¬ IsT o ∧ ∀ v, o.data ≠ .cell v := fun o ho => by
    obtain ⟨o', es, ep, ho', hd', _⟩ := hmm4; rw [ho'] at ho; cases ho; exact ⟨by simp [IsT, hd'], by simp [hd']⟩
  obtain ⟨oC, hoC⟩ : ∃ o, s₄.heap.get? C' = some o := let ⟨o', _, _, ho', _⟩ := hmm4; ⟨o', ho'⟩
  have R₅ := draw_rel (tk := s₄.toks) R₄ hs''.extBut hσ₃C (R.baseNone (get_none_of_size hC0)) ⟨oC, hoC, nT oC hoC⟩
  have F₅ := draw_frame F₄ hs''.extBut ⟨oC, hoC, nT oC hoC⟩ hCL
  have S₅ : Step (fun b => b = env.locals ∨ b = C') (upd σ' D (.list ys)) (upd σ' D (.list ys)) s'.heap h'' := (S₄.mono fun _ _ _ z => .inl z).trans (.of (fun b o e _ q => hs''.extBut b o (fun z => q (.inr z)) e) (Nat.le_of_eq hs''.1.symm) fun _ a b => absurd a b)
  have S₆ : Step (Own env) σ (upd σ' D (.list ys)) s.heap h'' := ((S₃.mono fun _ _ _ z => z.elim).trans S₅).mono fun b o e z => z.elim .inl fun z => absurd (Heap.lt_size e) (by rw [z]; exact Nat.not_lt.mpr hC0)
  exact hP .next .next _ _ _ .next R₅ F₅ S₆ (q' D hσD)
end
end Mine


end
noncomputable section
set_option autoImplicit false
set_option linter.unusedVariables false
namespace Mine
open PySem

section
variable {C : Cx} {sc : Scope} {k : Nat}
/- an item -/
def isSlice : Expr → Bool
  | .Slice .. => true
  | _ => false
theorem item_tree {A : Around} {s : Shared} {slice : Expr} {o i : Value} {T id : String} {P E : Value → Shared → Prop} (hsl : isSlice slice = false) (hT : s.TypeIs o T)
    (hl : typeLookup (.type T) "__getitem__" = pure (some (.builtin id))) (hg : wpAny (model C.prog C.w) A (getItem o i) P E s) :
    wpAny (model C.prog C.w) A (getitemInPython o >>= fun b => subscripted slice b o i) P E s := by
  refine wpAny_bind ?_
  rw [getitemInPython_of_ne hT.not_modules]
  refine wpAny_bind (wpAny_specialOf hT hl ?_)
  refine wpAny_pure ?_
  have : subscripted slice false o i = operate [o, i] (getItem o i) := by
    unfold subscripted
    cases slice <;> first | rfl | cases hsl
  rw [this]
  exact wpAny_operating hg
/-- the place that an index names -/
def idx (i : Int) (n : Nat) : Option Nat := if 0 ≤ i then (if i < n then some i.toNat else Option.none) else (if -(n : Int) ≤ i then some (i + n).toNat else Option.none)
def opItem (ns : List Int) : O2
  | .str x, .int i, σ, Q => x.length < 16777217 ∧ ∃ j c, idx i x.length = some j ∧ x.cps.toList[j]? = some c ∧ Q (.str ⟨#[c]⟩) σ
  | .script, .int i, σ, Q => ∃ j n, 0 ≤ i ∧ idx i ns.length = some j ∧ ns[j]? = some n ∧ Q (.int n) σ
  | .tup vs, .int i, σ, Q => vs.length < 16777217 ∧ ∃ j v, idx i vs.length = some j ∧ vs[j]? = some v ∧ Q v σ
  | .ref a, .int i, σ, Q => ∃ xs j v, σ a = some (.list xs) ∧ idx i xs.length = some j ∧ xs[j]? = some v ∧ Q v σ
  | _, _, _, _ => False
theorem idx_seq {i : Int} {n j : Nat} (h : idx i n = some j) : seqIndex? i n = some j := by
  unfold idx at h
  unfold seqIndex?
  split at h
  · split at h
    · cases h
      rename_i h1 h2
      simp [Int.not_lt.mpr h1, h1, h2]
    · cases h
  · split at h
    · cases h
      rename_i h1 h2
      have : i < 0 := by omega
      simp only [this, if_true]
      rw [if_pos (by simp only [Bool.and_eq_true, decide_eq_true_eq]; omega)]
    · cases h
theorem idx_lt {i : Int} {n j : Nat} (h : idx i n = some j) : j < n ∧ -(n : Int) ≤ i ∧ i < n := by
  unfold idx at h
  split at h
  · split at h
    · cases h; omega
    · cases h
  · split at h
    · cases h; omega
    · cases h
theorem get_list {A : Around} {s : Shared} {a : Addr} {ws : List Value} {i : Int} {t : Tok} {j : Nat} {w : Value} {P E : Value → Shared → Prop} (hl : s.heap.IsList a ws.toArray) (hi : idx i ws.length = some j) (hw : ws[j]? = some w) (hz : ws.length ≤ 16777216) (q : P w s) :
    wpAny (model C.prog C.w) A (getItem (.ref a) (.int i t)) P E s := by
  have hlt := idx_lt hi
  by_cases h0 : 0 ≤ i
  · have : j = i.toNat := by unfold idx at hi; rw [if_pos h0] at hi; split at hi <;> cases hi; rfl
    subst this
    exact wpAny_getItem_list hl h0 (by omega) (by simpa using hw) q
  · have : j = (i + ws.length).toNat := by unfold idx at hi; rw [if_neg h0] at hi; split at hi <;> cases hi; rfl
    subst this
    refine wpAny_getItem_list_neg hl (by omega) (by simp; omega) (by omega) (by simpa using hw) q
theorem ok_item (O : C.Ok) {slice : Expr} (hsl : isSlice slice = false) : Op2 C k (fun o i => getitemInPython o >>= fun b => subscripted slice b o i) (opItem C.ns) := by
  intro A s σ a b wa wb Q P E ao R va vb q hP
  cases a <;> first | exact q.elim | skip
  all_goals (cases b <;> first | exact q.elim | skip)
  · rename_i x i
    cases va; cases vb
    obtain ⟨hx, j, c, hj, hc, q⟩ := q
    refine item_tree hsl (typeIs_str _ _ _) F.slot_str_getitem.lookup ?_
    have hlt := idx_lt hj
    have e : Txt.charAt x i = some c := by
      unfold Txt.charAt
      rw [idx_seq hj]
      simpa using hc
    refine SB.getItem ?_ (by rw [e]; rfl) ?_
    · unfold fitsSsize; simp; omega
    · have e2 : Txt.item x i = ⟨#[c]⟩ := by unfold Txt.item; rw [e]; rfl
      rw [e2]
      exact hP _ _ σ _ (.str _ _) (R.tok _) Step.refl q
  · rename_i aa i
    cases va; cases vb
    obtain ⟨xs, j, v, hx, hj, hv, q⟩ := q
    obtain ⟨hz, ws, h1, h2⟩ := R.view aa _ hx
    obtain ⟨w, hw, hr⟩ := h2.get hv
    exact item_tree hsl h1.isList.typeIs slot_list_getitem.lookup (get_list h1.isList (by rw [← h2.length]; exact hj) hw (by rw [← h2.length]; exact hz) (hP _ _ σ s hr R Step.refl q))
  · rename_i i
    cases va; cases vb
    obtain ⟨j, n, h0, hj, hv, q⟩ := q
    obtain ⟨ws, h1, h2, h3⟩ := O.script
    obtain ⟨t, ht⟩ := h3 j n hv
    have hl : s.heap.IsList C.aS ws := h1.at fun o e => R.base _ _ e
    have hl' : s.heap.IsList C.aS ws.toList.toArray := by simpa using hl
    exact item_tree hsl hl.typeIs slot_list_getitem.lookup (get_list hl' (by rw [h2]; exact hj) ht (by rw [h2]; have := O.few; omega) (hP _ _ σ s (.int n t) R Step.refl q))
  · rename_i vs i
    cases vb
    cases va with
    | @tup _ at' ws ht hvs =>
      obtain ⟨hz, j, v, hj, hv, q⟩ := q
      obtain ⟨w, hw, hr⟩ := hvs.get hv
      have hlt := idx_lt hj
      have htt : PyProof.Rows.IsTup s.heap at' ws.toArray := ht
      refine item_tree hsl ht.typeIs (PyProof.Rows.slot_tuple_getitem).lookup (PyProof.Rows.getItem_tuple htt (by omega) (by omega) (by rw [List.size_toArray, ← hvs.length]; exact idx_seq hj) (by simpa using hw) (hP _ _ σ s hr R Step.refl q))

/- slices -/
def clip (n : Nat) (lo hi : Option Int) : Nat × Nat := (lo.elim 0 (clipAt n), hi.elim n (clipAt n) - lo.elim 0 (clipAt n))
def pyCut {α : Type} (l : List α) (lo hi : Option Int) : List α := (l.drop (clip l.length lo hi).1).take (clip l.length lo hi).2
def opCut (ns : List Int) (lo hi : Option Int) : O1
  | .str x, σ, Q => x.length ≤ 16777216 ∧ Q (.str ⟨(pyCut x.cps.toList lo hi).toArray⟩) σ
  | .ref a, σ, Q => ∃ xs, σ a = some (.list xs) ∧ newL (pyCut xs lo hi) σ Q
  | .script, σ, Q => newL ((pyCut ns lo hi).map .int) σ Q
  | _, _, _ => False
/-- a part of a slice -/
structure HP (C : Cx) (sc : Scope) (k : Nat) (e : Option Expr) (T : Loc → View → (Option Int → View → Prop) → Prop) : Prop where
  run : ∀ (env : Env) (A : Around) (s : Shared) (m : Loc) (σ : View) (Q : Option Int → View → Prop) (P : Value → Shared → Prop) (E : Value → Shared → Prop),
    EnvOk env sc → AOk C A k → RelG C σ s → FrameRel C env m σ s.heap → T m σ Q →
    (∀ i p σ' s', i = Option.map Prod.fst p → RelG C σ' s' → Step no σ σ' s.heap s'.heap → Q i σ' → P (partValue p) s') →
    wpAny (model C.prog C.w) A (evalPart e env) P E s
def pNone : Loc → View → (Option Int → View → Prop) → Prop := fun _ σ Q => Q Option.none σ
def pSome (T : ET) : Loc → View → (Option Int → View → Prop) → Prop := fun m σ Q => T m σ fun v σ' => ∃ i, v = .int i ∧ Q (some i) σ'
theorem HP.none : HP C sc k Option.none pNone := ⟨fun env A s m σ Q P E en ao R F q hP => wpAny_pure (hP Option.none Option.none σ s rfl R Step.refl q)⟩
theorem HP.some {e : Expr} {T : ET} (he : HE C sc k e T) : HP C sc k (some e) (pSome T) := ⟨fun env A s m σ Q P E en ao R F q hP =>
  he.run env A s m σ _ _ E en ao R F q fun v w σ' s' hv R' S' q' => by
    obtain ⟨i, rfl, q'⟩ := q'
    cases hv with
    | int i t => exact hP (Option.some i) (Option.some (i, t)) σ' s' rfl R' S' q'⟩
theorem cut_len {α : Type} (l : List α) (lo hi : Option Int) : (pyCut l lo hi).length ≤ l.length := by
  unfold pyCut; rw [List.length_take, List.length_drop]; omega
theorem VRels.cut {aS : Addr} {h : Heap} {vs : List V} {ws : List Value} (x : VRels aS h vs ws) (a b : Nat) : VRels aS h ((vs.drop a).take b) ((ws.drop a).take b) := by
  have hd : ∀ (a : Nat) {vs : List V} {ws : List Value}, VRels aS h vs ws → VRels aS h (vs.drop a) (ws.drop a) := by
    intro a
    induction a with
    | zero => intro vs ws x; exact x
    | succ a ih => intro vs ws x; cases x with
      | nil => exact .nil
      | cons _ r => exact ih r
  have ht : ∀ (b : Nat) {vs : List V} {ws : List Value}, VRels aS h vs ws → VRels aS h (vs.take b) (ws.take b) := by
    intro b
    induction b with
    | zero => intro vs ws x; exact .nil
    | succ b ih => intro vs ws x; cases x with
      | nil => exact .nil
      | cons a r => exact .cons a (ih r)
  exact ht b (hd a x)
theorem strCut (x : Str) (lo hi : Option Int) : ((Builtin.Str.strSliceIndices lo hi 1 x.length).filterMap (x.cps[·]?)) = pyCut x.cps.toList lo hi := by
  have e : Builtin.Str.strSliceIndices lo hi 1 x.length = sliceRange ((lo.elim 0 (clipAt x.length) : Nat) : Int) ((hi.elim x.length (clipAt x.length) : Nat) : Int) 1 := by
    unfold Builtin.Str.strSliceIndices
    cases lo <;> cases hi <;> simp [clipAt_cast]
  rw [e, sliceRange_one, pick_run]
  unfold pyCut clip
  simp [Str.length]
def eCut (ns : List Int) (T : ET) (L U : Loc → View → (Option Int → View → Prop) → Prop) : ET := fun m σ Q => T m σ fun v σ₁ => L m σ₁ fun lo σ₂ => U m σ₂ fun hi σ₃ => opCut ns lo hi v σ₃ Q
theorem HE.cut (O : C.Ok) {value : Expr} {lower upper : Option Expr} {p pos : Pos} {T : ET} {L U : Loc → View → (Option Int → View → Prop) → Prop} (hv : HE C sc k value T) (hl : HP C sc k lower L) (hu : HP C sc k upper U) :
    HE C sc k (.Subscript value (.Slice lower upper Option.none p) pos) (eCut C.ns T L U) := by
  refine ⟨?_⟩; intro env A s m σ Q P E en ao R F q hP
  rw [eval_Subscript]
  refine wpAny_bind (hv.run env A s m σ _ _ E en ao R F q fun v w σ₁ s₁ va R₁ S₁ q₁ => wpAny_bind (wpAny_holding (wpAny_Slice ?_)))
  have F₁ := F.step R S₁
  refine hl.run env A s₁ m σ₁ _ _ E en ao R₁ F₁ q₁ fun lo pl σ₂ s₂ el R₂ S₂ q₂ => ?_
  refine hu.run env A s₂ m σ₂ _ _ E en ao R₂ (F₁.step R₁ S₂) q₂ fun hi pu σ₃ s₃ eu R₃ S₃ q₃ => ?_
  rw [evalPart_none]
  refine wpAny_pure (wpAny_bind (wpAny_standAt ?_))
  have va₃ := (va.keep (S₂.tupsN R₁)).keep (S₃.tupsN R₂)
  have S₁₃ := (S₁.trans S₂).trans S₃
  have Rs : RelG C σ₃ { s₃ with heap := s₃.heap.push { cls := .type "slice", data := .fields #[partValue pl, partValue pu, .none] } } := R₃.grow (tk := s₃.toks) push_old
  have part : ∀ p : Option (Int × Tok), IsPart (partValue p) (p.map (·.1)) := fun p => by
    cases p with
    | none => exact .none
    | some x => exact .int _ _
  have go : ∀ {T id : String} {o : Value} {s : Shared}, s.TypeIs o T → typeLookup (.type T) "__getitem__" = pure (some (.builtin id)) → ∀ {i : Value}, wpAny (model C.prog C.w) A (getItem o i) P E s →
      wpAny (model C.prog C.w) A ((getitemInPython o >>= fun b => subscripted (.Slice lower upper Option.none p) b o i) >>= fun r => letTemporaryGo value o r >>= fun _ => pure r) P E s := fun {T id o s} hT hl {i} hg => by
    refine wpAny_bind (wpAny_bind ?_)
    rw [getitemInPython_of_ne hT.not_modules]
    refine wpAny_bind (wpAny_specialOf hT hl (wpAny_pure ?_))
    show wpAny _ A (operate [i, o] (getItem o i)) _ _ _
    exact wpAny_operating (wpAny_mono hg (fun r s' hr => wpAny_bind (wpAny_letTemporaryGo (wpAny_pure hr))) fun _ _ x => x)
  have fin : ∀ {o i : Value} {s : Shared}, wpAny (model C.prog C.w) A ((getitemInPython o >>= fun b => subscripted (.Slice lower upper Option.none p) b o i) >>= fun r => letTemporaryGo value o r >>= fun _ => pure r) P E s →
      wpAny (model C.prog C.w) A (getitemInPython o >>= fun b => subscripted (.Slice lower upper Option.none p) b o i >>= fun r => letTemporaryGo value o r >>= fun _ => pure r) P E s := fun h => by rwa [bind_assoc] at h
  have pick : ∀ (ws : List Value), slicePick ws.toArray lo hi Option.none = (pyCut ws lo hi).toArray := fun ws => by
    rw [slicePick_plain]; simp [pyCut, clip]
  have lists : ∀ (a : Addr) (vs : List V) (ws : List Value), s₃.heap.IsList a ws.toArray → VRels C.aS s₃.heap vs ws → vs.length ≤ 16777216 → newL (pyCut vs lo hi) σ₃ Q →
      wpAny (model C.prog C.w) A (getitemInPython (.ref a) >>= fun b => subscripted (.Slice lower upper Option.none p) b (.ref a) (.ref s₃.heap.objs.size) >>= fun r => letTemporaryGo value (.ref a) r >>= fun _ => pure r) P E { s₃ with heap := s₃.heap.push { cls := .type "slice", data := .fields #[partValue pl, partValue pu, .none] } } := fun a vs ws hla hvs hz qn => by
    refine fin (go (hla.push _).typeIs slot_list_getitem.lookup (wpAny_getItem_list_slice (lo := lo) (hi := hi) (st := Option.none) (hla.push _) (Heap.IsSliceOf.new ..) (el ▸ part pl) (eu ▸ part pu) .none (by simp) ?_ (by rw [List.size_toArray, ← hvs.length, sizeLine_eq]; exact hz)))
    rw [pick]
    have hn := size_none (s₃.heap.push { cls := .type "slice", data := .fields #[partValue pl, partValue pu, .none] })
    refine hP _ _ (upd σ₃ _ (.list (pyCut vs lo hi))) _ (.ref _) (Rs.add (tk := s₃.toks) push_old hn ⟨Nat.le_trans (cut_len vs lo hi) hz, pyCut ws lo hi, ⟨_, Heap.get?_push_size _ rfl⟩, ?_⟩) ((S₁₃.trans .push).trans .addPush) (qn _ (Rs.freshNone hn))
    have := (hvs.cut (clip vs.length lo hi).1 (clip vs.length lo hi).2).keep (h' := (s₃.heap.push { cls := .type "slice", data := .fields #[partValue pl, partValue pu, .none] }).push { cls := .type "list", data := .seq (pyCut ws lo hi).toArray }) fun _ _ e _ => push_old _ _ (push_old _ _ e)
    have e2 : pyCut ws lo hi = (ws.drop (clip vs.length lo hi).1).take (clip vs.length lo hi).2 := by unfold pyCut; rw [hvs.length]
    rw [← e2] at this
    exact this
  show wpAny _ A (getitemInPython w >>= fun b => subscripted (.Slice lower upper Option.none p) b w (.ref s₃.heap.objs.size) >>= fun r => letTemporaryGo value w r >>= fun _ => pure r) P E _
  cases va₃ with
  | none => exact q₃.elim
  | bool => exact q₃.elim
  | int => exact q₃.elim
  | ty => exact q₃.elim
  | tup => exact q₃.elim
  | script =>
    obtain ⟨ws, h1, h2, h3⟩ := O.script
    have hl : s₃.heap.IsList C.aS ws.toList.toArray := by simpa using (h1.at fun o e => R₃.base _ _ e)
    have hvs : VRels C.aS s₃.heap (C.ns.map .int) ws.toList := by
      have : ∀ (ns : List Int) (l : List Value), l.length = ns.length → (∀ (i : Nat) n, ns[i]? = Option.some n → ∃ t, l[i]? = Option.some (Value.int n t)) → VRels C.aS s₃.heap (ns.map .int) l := by
        intro ns
        induction ns with
        | nil => intro l hl _; cases l with | nil => exact .nil | cons => simp at hl
        | cons n r ih => intro l hl h; cases l with
          | nil => simp at hl
          | cons w r' =>
            obtain ⟨t, ht⟩ := h 0 n rfl
            simp at ht; subst ht
            exact .cons (.int n t) (ih r' (by simpa using hl) fun i n hi => h (i + 1) n (by simpa using hi))
      exact this _ _ h2 h3
    refine lists _ _ _ hl hvs (by have := O.few; simp; omega) ?_
    have e : pyCut (C.ns.map V.int) lo hi = (pyCut C.ns lo hi).map .int := by unfold pyCut; simp [List.map_take, List.map_drop]
    rw [e]; exact q₃
  | ref a =>
    obtain ⟨xs, hx, qn⟩ := q₃
    obtain ⟨hz, ws, h1, h2⟩ := R₃.view a _ hx
    exact lists a xs ws h1.isList h2 hz qn
  | str x t =>
    obtain ⟨hx, q₃⟩ := q₃
    refine fin (go (typeIs_str _ x t) _root_.PySem.F.slot_str_getitem.lookup (wpAny_getItem_str_slice (l := pl) (u := pu) (st := Option.none) ⟨_, Heap.get?_push_size _ rfl, rfl, rfl⟩ rfl ?_))
    have e1 : slicePicked x pl pu Option.none = Builtin.Str.strSliceIndices lo hi 1 x.length := by unfold slicePicked; rw [el, eu]; rfl
    have e2 := strCut x lo hi
    unfold sliceMade
    rw [e1, e2]
    have res : ∀ t' tk, P (.str ⟨(pyCut x.cps.toList lo hi).toArray⟩ t') { s₃ with heap := s₃.heap.push { cls := .type "slice", data := .fields #[partValue pl, partValue pu, .none] }, toks := tk } := fun t' tk =>
      hP _ _ σ₃ _ (.str _ _) (R₃.grow push_old) (S₁₃.trans .push) q₃
    split
    · rename_i hc
      have hlen : (Builtin.Str.strSliceIndices lo hi 1 x.length).length = x.length := by simpa using hc
      have : (⟨(pyCut x.cps.toList lo hi).toArray⟩ : Str) = x := by
        have hh : (pyCut x.cps.toList lo hi) = x.cps.toList := by
          have l1 : (pyCut x.cps.toList lo hi).length = x.cps.toList.length := by
            have e : Builtin.Str.strSliceIndices lo hi 1 x.length = sliceRange ((lo.elim 0 (clipAt x.length) : Nat) : Int) ((hi.elim x.length (clipAt x.length) : Nat) : Int) 1 := by
              unfold Builtin.Str.strSliceIndices
              cases lo <;> cases hi <;> simp [clipAt_cast]
            rw [e, sliceRange_one] at hlen
            simp at hlen
            unfold pyCut clip
            have hxl : x.cps.toList.length = x.length := by simp [Str.length]
            rw [List.length_take, List.length_drop, hxl]
            dsimp only
            have hle : hi.elim x.length (clipAt x.length) ≤ x.length := by
              cases hi with
              | none => exact Nat.le_refl _
              | some i =>
                have := clipAt_cast x.length i
                simp only [Option.elim]
                omega
            omega
          unfold pyCut at l1 ⊢
          rw [List.length_take, List.length_drop] at l1
          have a0 : (clip x.cps.toList.length lo hi).1 = 0 ∨ x.cps.toList.length = 0 := by omega
          rcases a0 with a0 | a0
          · rw [a0] at l1 ⊢; rw [List.drop_zero]; exact List.take_of_length_le (by omega)
          · have : x.cps.toList = [] := List.length_eq_zero_iff.mp a0
            rw [this]; simp
        rw [hh]
      have r := res t s₃.toks
      rw [this] at r
      exact r
    · refine ⟨?_, res _ _⟩
      show (pyCut x.cps.toList lo hi).toArray.size ≤ sizeLine
      rw [List.size_toArray, sizeLine_eq]
      have := cut_len x.cps.toList lo hi
      have hxl : x.cps.toList.length = x.length := by simp [Str.length]
      omega
end
end Mine


end
noncomputable section
set_option autoImplicit false
set_option linter.unusedVariables false
namespace Mine
open PySem

section
variable {C : Cx} {sc : Scope} {k : Nat}
/- the methods of built-in types -/
def eMeth (ty : V → View → Prop) (op : Spec) (T : ET) (L : LT) : ET := fun m σ Q => T m σ fun o σ₁ => ty o σ₁ ∧ L m σ₁ fun vs σ₂ => op (o :: vs) σ₂ Q
def TyOk (C : Cx) (T : String) (ty : V → View → Prop) : Prop := ∀ (o : V) (wo : Value) (σ : View) (s : Shared), RelG C σ s → VRel C.aS s.heap o wo → ty o σ → s.TypeIs wo T ∧ ∀ a, wo = .ref a → ∃ ob, s.heap.get? a = some ob ∧ ob.dict = Option.none
theorem HE.meth {T id : String} {name : Str} {o : Expr} {apos pos : Pos} {es : List Expr} {ty : V → View → Prop} {op : Spec} {To : ET} {L : LT} (hty : TyOk C T ty) (pa : PlainAttrs T) (slot : Slot T name id) (hmd : typeOf (.builtin id) = pure (.type "method_descriptor"))
    (hop : OpN C k (fun ws => PySem.call (.builtin id) ws) op) (ho : HE C sc k o To) (hl : HL C sc k es L) (hp : plainArgs es = true)
    (hbase : ∀ env, attributeBase o name env (eval o env) = eval o env) (hline : (apos.endLine == pos.line) = true) (hfew : es.length < 30) : HE C sc k (.Call (.Attribute o name apos) es [] pos) (eMeth ty op To L) := by
  refine ⟨?_⟩; intro env A s m σ Q P E en ao R F q hP
  have hall : (backTo pos (starEach es env)).all (fun x => !x.1) = true := by
    have := starEach_any (env := env) (pos := pos) hp
    rw [List.any_eq_false] at this
    rw [List.all_eq_true]
    intro x hx
    have := this x hx
    simp at this
    simp [this]
  refine wpAny_Call_method (hbase env) (by rw [hall]; simp [backToKw, keywordEach]; omega) hline pa slot hmd ?_
  refine ho.run env A s m σ _ _ E en ao R F q fun v w σ₁ s₁ hv R₁ S₁ q₁ => ?_
  obtain ⟨h1, h2⟩ := hty v w σ₁ s₁ R₁ hv q₁.1
  refine ⟨h1, h2, Calls.callWith_builtin (starEach_any hp) (evalArgs_of hp (hl.run env A s₁ m σ₁ pos _ _ E en ao R₁ (F.step R S₁) q₁.2 fun vs ws σ₂ s₂ hvs R₂ S₂ q₂ => ?_))⟩
  exact hop A s₂ σ₂ (v :: vs) (w :: ws) Q P E ao R₂ (.cons (hv.keep (S₂.tupsN R₁)) hvs) q₂ fun v' w' σ' s' hv' R' S' q' => hP v' w' σ' s' hv' R' ((S₁.trans S₂).trans S') q'
def tyStr : V → View → Prop
  | .str _, _ => True
  | _, _ => False
theorem tyStr_ok : TyOk C "str" tyStr := by
  intro o wo σ s R hv h
  cases hv <;> first | exact h.elim | skip
  exact ⟨typeIs_str _ _ _, fun a e => by cases e⟩
def tyList : V → View → Prop
  | .ref a, σ => ∃ xs, σ a = some (.list xs)
  | _, _ => False
theorem VRels.inv1 {aS : Addr} {h : Heap} {a : V} {ws : List Value} (x : VRels aS h [a] ws) : ∃ wa, ws = [wa] ∧ VRel aS h a wa := by
  cases x with
  | cons h1 r => cases r; exact ⟨_, rfl, h1⟩
theorem VRels.inv2 {aS : Addr} {h : Heap} {a b : V} {ws : List Value} (x : VRels aS h [a, b] ws) : ∃ wa wb, ws = [wa, wb] ∧ VRel aS h a wa ∧ VRel aS h b wb := by
  cases x with
  | cons h1 r => obtain ⟨wb, rfl, h2⟩ := r.inv1; exact ⟨_, _, rfl, h1, h2⟩
/- texts -/
def spStarts : Spec
  | [.str x, .str y], σ, Q => Q (.bool (Txt.startswith x y)) σ
  | _, _, _ => False
theorem ok_starts : OpN C k (fun ws => PySem.call (.builtin "str.startswith") ws) spStarts := by
  intro A s σ vs ws Q P E ao R hv q hP
  unfold spStarts at q
  split at q
  · obtain ⟨wa, wb, rfl, h1, h2⟩ := hv.inv2
    cases h1; cases h2
    exact SC.startswith (hP _ _ σ s (.bool _) R Step.refl q)
  · exact q.elim
theorem strs_of {aS : Addr} {h : Heap} : ∀ {ys : List Str} {ws : List Value}, VRels aS h (ys.map .str) ws → ∃ l : List (Str × Tok), ws = strValues l ∧ l.map (·.1) = ys
  | [], _, .nil => ⟨[], rfl, rfl⟩
  | y :: ys, _, .cons (.str _ t) r => by
    obtain ⟨l, rfl, rfl⟩ := strs_of r
    exact ⟨(y, t) :: l, rfl, rfl⟩
theorem strs_rel {aS : Addr} {h : Heap} : ∀ (l : List (Str × Tok)), VRels aS h ((l.map (·.1)).map .str) (strValues l)
  | [] => .nil
  | (x, t) :: l => .cons (.str x t) (strs_rel l)
/-- sep.join of a list of texts -/
def spJoin : Spec
  | [.str x, .ref a], σ, Q => ∃ ys : List Str, σ a = some (.list (ys.map .str)) ∧ (ys.map (·.length)).sum + ys.length * x.length ≤ 16777216 ∧ Q (.str (Str.join x ys)) σ
  | _, _, _ => False
theorem foldl_len (x : Str) : ∀ (l : List Str) (n : Nat), l.foldl (fun a y => a + y.length + x.length) n = n + (l.map (·.length)).sum + l.length * x.length
  | [], n => by simp
  | y :: r, n => by
    rw [List.foldl_cons, foldl_len x r]
    simp [Nat.add_mul]; omega
theorem glued_join (x : Str) : ∀ ys : List Str, Builtin.Str.glued x ys = Str.join x ys := by
  have key : ∀ (r : List Str) (acc : Array Nat), (⟨r.foldl (fun acc p => acc ++ x.cps ++ p.cps) acc⟩ : Str) = match r with | [] => ⟨acc⟩ | _ => (⟨acc⟩ : Str) ++ x ++ Str.join x r := by
    intro r
    induction r with
    | nil => intro acc; rfl
    | cons y r ih =>
      intro acc
      rw [List.foldl_cons, ih]
      cases r with
      | nil => rfl
      | cons z r => 
        show (⟨acc ++ x.cps ++ y.cps⟩ : Str) ++ x ++ Str.join x (z :: r) = (⟨acc⟩ : Str) ++ x ++ (y ++ x ++ Str.join x (z :: r))
        have : ∀ a b : Str, a ++ b = ⟨a.cps ++ b.cps⟩ := fun _ _ => rfl
        simp only [this, Array.append_assoc]
  intro ys
  cases ys with
  | nil => rfl
  | cons y r =>
    unfold Builtin.Str.glued
    simp only [List.drop_one, List.tail_cons, List.headD_cons]
    rw [key]
    cases r with
    | nil => rfl
    | cons z r => rfl
theorem ok_join : OpN C k (fun ws => PySem.call (.builtin "str.join") ws) spJoin := by
  intro A s σ vs ws Q P E ao R hv q hP
  unfold spJoin at q
  split at q
  · rename_i x a
    obtain ⟨wa, wb, rfl, h1, h2⟩ := hv.inv2
    cases h1; cases h2
    obtain ⟨ys, hy, hl, q⟩ := q
    obtain ⟨_, ws, h3, h4⟩ := R.view a _ hy
    obtain ⟨l, rfl, e⟩ := strs_of h4
    refine SC.join (texts := ys) h3.isList e ?_ fun t' tk => ?_
    · unfold JoinOk Builtin.Str.tooLong
      rw [← Array.foldl_toList, foldl_len]
      rw [sizeLine_eq]
      simp
      omega
    · have : Txt.join x ys = Str.join x ys := glued_join x ys
      rw [this]
      exact hP _ _ σ _ (.str _ _) (R.tok _) Step.refl q
  · exact q.elim
/-- x.split(y) -/
def spSplit : Spec
  | [.str x, .str y], σ, Q => (y.length = 1 ∧ x.length ≤ 1048576) ∧ newL ((Txt.split x y).map .str) σ Q
  | _, _, _ => False
theorem push_list {A : Around} {s : Shared} {σ : View} {xs : List V} {ws : List Value} {tk : Nat} {Q : V → View → Prop} {P : Value → Shared → Prop} (R : RelG C σ s) (hv : VRels C.aS s.heap xs ws) (hz : xs.length ≤ 16777216) (q : newL xs σ Q) (hP : Aft C σ s Q P) :
    P (.ref s.heap.objs.size) { s with heap := s.heap.push { cls := .type "list", data := .seq ws.toArray }, toks := tk } := by
  have hn := size_none s.heap
  exact hP _ _ (upd σ s.heap.objs.size (.list xs)) _ (.ref _) (R.add (tk := tk) push_old hn ⟨hz, ws, ⟨_, Heap.get?_push_size _ rfl⟩, hv.keep fun _ _ e _ => push_old _ _ e⟩) .addPush (q _ (R.freshNone hn))
theorem ok_split : OpN C k (fun ws => PySem.call (.builtin "str.split") ws) spSplit := by
  intro A s σ vs ws Q P E ao R hv q hP
  unfold spSplit at q
  split at q
  · rename_i x y
    obtain ⟨wa, wb, rfl, h1, h2⟩ := hv.inv2
    cases h1 with | str _ t => cases h2 with | str _ u =>
    obtain ⟨⟨hy, hx⟩, q⟩ := q
    have hy0 : (y.length == 0) = false := by simp [hy]
    have hsz : (Builtin.Str.partsBetween x (Builtin.Str.occurrences x y 0 x.length (x.length + 1)) y.length).length ≤ 1048578 := by
      rw [length_partsBetween]
      have := StrLaws.occ_length_le x y 0 x.length (x.length + 1)
      omega
    have single : Txt.split x y = [x] → P (.ref s.heap.objs.size) { s with heap := s.heap.push { cls := .type "list", data := .seq [Value.str x t].toArray } } := fun e => by
      rw [e] at q
      exact push_list (A := A) (tk := s.toks) R (.cons (.str x t) .nil) (by simp) q hP
    cases h1 : (decide (x.length < y.length) || decide (Builtin.Str.strKind x < Builtin.Str.strKind y))
    · cases hf : (Builtin.Str.occurrences x y 0 x.length (x.length + 1)).isEmpty
      · refine call_meets _root_.PySem.F.slot_str_split (typeIs_str _ _ _) _root_.PySem.F.entry_str_split (_root_.PySem.F.args_str_split_2 _ _) (meets_str_split_sep x y t u h1 hy0 hf (by rw [sizeLine_eq]; omega) (by rw [sizeLine_eq]; omega)) ?_
        have e : Txt.split x y = Builtin.Str.partsBetween x (Builtin.Str.occurrences x y 0 x.length (x.length + 1)) y.length := by unfold Txt.split; rw [h1, hf]; rfl
        rw [e] at q
        show wants P E _ { s with toks := _, heap := s.heap.push { cls := .type "list", data := .seq (strsFrom s.toks (Builtin.Str.partsBetween x (Builtin.Str.occurrences x y 0 x.length (x.length + 1)) y.length)).toArray } }
        rw [strsFrom_eq]
        refine push_list (A := A) R ?_ (by rw [List.length_map]; omega) q hP
        have := strs_rel (aS := C.aS) (h := s.heap) (numbered s.toks (Builtin.Str.partsBetween x (Builtin.Str.occurrences x y 0 x.length (x.length + 1)) y.length))
        rw [numbered_texts] at this
        exact this
      · exact call_meets _root_.PySem.F.slot_str_split (typeIs_str _ _ _) _root_.PySem.F.entry_str_split (_root_.PySem.F.args_str_split_2 _ _) (meets_str_split_not_found x y t u h1 hy0 hf) (single (by unfold Txt.split; rw [h1, hf]; rfl))
    · exact call_meets _root_.PySem.F.slot_str_split (typeIs_str _ _ _) _root_.PySem.F.entry_str_split (_root_.PySem.F.args_str_split_2 _ _) (meets_str_split_cannot_occur x y t u h1) (single (by unfold Txt.split; rw [h1]; rfl))
  · exact q.elim
/- lengths -/
def spLen (ns : List Int) : Spec
  | [.str x], σ, Q => x.length ≤ 16777216 ∧ Q (.int x.length) σ
  | [.ref a], σ, Q => match σ a with
    | some (.list xs) => Q (.int xs.length) σ
    | some (.dict kvs _) => Q (.int kvs.length) σ
    | some (.idict kvs _) => Q (.int kvs.length) σ
    | Option.none => False
  | [.tup vs], σ, Q => vs.length ≤ 16777216 ∧ Q (.int vs.length) σ
  | [.script], σ, Q => Q (.int ns.length) σ
  | _, _, _ => False
theorem ok_len (O : C.Ok) : OpN C k (fun ws => PySem.call (.builtin "len") ws) (spLen C.ns) := by
  intro A s σ vs ws Q P E ao R hv q hP
  unfold spLen at q
  split at q
  · obtain ⟨wa, rfl, h1⟩ := hv.inv1
    cases h1
    exact _root_.PySem.P.len_str (by omega) (hP _ _ σ _ (.int _ _) (R.tok _) Step.refl q.2)
  · obtain ⟨wa, rfl, h1⟩ := hv.inv1
    cases h1
    split at q
    · rename_i hx
      obtain ⟨hz, ws, h1, h2⟩ := R.view _ _ hx
      have e := h2.length
      refine Calls.call_len_list h1.isList (by rw [List.size_toArray, ← e]; omega) ?_
      rw [List.size_toArray, ← e]
      exact hP _ _ σ _ (.int _ _) (R.tok _) Step.refl q
    · rename_i hx
      obtain ⟨hz, ws, h1, h2⟩ := R.view _ _ hx
      have e := h2.length
      refine call_len_dict (O.noMods (R.apart _ (by rw [hx]; simp))) h1.dictOf (by rw [← e]; omega) ?_
      rw [← e]
      exact hP _ _ σ _ (.int _ _) (R.tok _) Step.refl q
    · rename_i hx
      obtain ⟨hz, ws, h1, h2⟩ := R.view _ _ hx
      have e := h2.length
      refine call_len_dict (O.noMods (R.apart _ (by rw [hx]; simp))) h1.dictOf (by rw [← e]; omega) ?_
      rw [← e]
      exact hP _ _ σ _ (.int _ _) (R.tok _) Step.refl q
    · exact q.elim
  · obtain ⟨wa, rfl, h1⟩ := hv.inv1
    cases h1 with
    | @tup _ a ws ht hvs =>
      have e := hvs.length
      refine PyProof.Rows.len_tuple (show PyProof.Rows.IsTup s.heap a ws.toArray from ht) (by rw [List.size_toArray, ← e]; omega) ?_
      rw [List.size_toArray, ← e]
      exact hP _ _ σ _ (.int _ _) (R.tok _) Step.refl q.2
  · obtain ⟨wa, rfl, h1⟩ := hv.inv1
    cases h1
    obtain ⟨ws, h1, h2, h3⟩ := O.script
    have hl : s.heap.IsList C.aS ws := h1.at fun o e => R.base _ _ e
    have e : (ws.size : Int) = C.ns.length := by rw [← h2]; simp
    refine Calls.call_len_list hl (by rw [e]; have := O.few; omega) ?_
    rw [e]
    exact hP _ _ σ _ (.int _ _) (R.tok _) Step.refl q
  · exact q.elim
/- isinstance of a built-in type -/
def isi : V → View → String → Option Bool
  | .bool _, _, T => if T = "bool" then some true else if T = "int" then some true else if T ∈ ["str", "list", "dict", "tuple"] then some false else Option.none
  | .int _, _, T => if T = "int" then some true else if T ∈ ["bool", "str", "list", "dict", "tuple"] then some false else Option.none
  | .str _, _, T => if T = "str" then some true else if T ∈ ["bool", "int", "list", "dict", "tuple"] then some false else Option.none
  | .tup _, _, T => if T = "tuple" then some true else if T ∈ ["bool", "int", "list", "dict", "str"] then some false else Option.none
  | .ref a, σ, T => match σ a with
    | some (.list _) => if T = "list" then some true else if T ∈ ["bool", "int", "tuple", "dict", "str"] then some false else Option.none
    | some (.dict _ _) => if T = "dict" then some true else if T ∈ ["bool", "int", "tuple", "list", "str"] then some false else Option.none
    | _ => Option.none
  | _, _, _ => Option.none
def spIsi : Spec
  | [v, .ty T], σ, Q => ∃ r, isi v σ T = some r ∧ Q (.bool r) σ
  | _, _, _ => False
theorem ok_isi : OpN C k (fun ws => PySem.call (.builtin "isinstance") ws) spIsi := by
  intro A s σ vs ws Q P E ao R hv q hP
  unfold spIsi at q
  split at q
  · rename_i v T
    obtain ⟨wa, wb, rfl, h1, h2⟩ := hv.inv2
    cases h2
    obtain ⟨r, hr, q⟩ := q
    have p0 : r = true → P (.bool true) s := fun e => hP _ _ σ _ (.bool true) R Step.refl (e ▸ q)
    have p1 : r = false → P (.bool false) { s with toks := s.toks + 1 } := fun e => hP _ _ σ _ (.bool false) (R.tok _) Step.refl (e ▸ q)
    unfold isi at hr
    split at hr
    · cases h1
      split at hr
      · rename_i e; subst e; cases hr; exact IsiPair.bool_bool (p0 rfl)
      · split at hr
        · rename_i e; subst e; cases hr; exact IsiPair.bool_int (p0 rfl)
        · split at hr
          · rename_i e; cases hr
            simp only [List.mem_cons, List.not_mem_nil, or_false] at e
            rcases e with rfl | rfl | rfl | rfl
            · exact IsiPair.bool_str (p1 rfl)
            · exact IsiPair.bool_list (p1 rfl)
            · exact IsiPair.bool_dict (p1 rfl)
            · exact IsiPair.bool_tuple (p1 rfl)
          · cases hr
    · cases h1
      split at hr
      · rename_i e; subst e; cases hr; exact IsiPair.int_int (p0 rfl)
      · split at hr
        · rename_i e; cases hr
          simp only [List.mem_cons, List.not_mem_nil, or_false] at e
          rcases e with rfl | rfl | rfl | rfl | rfl
          · exact IsiPair.int_bool (p1 rfl)
          · exact IsiPair.int_str (p1 rfl)
          · exact IsiPair.int_list (p1 rfl)
          · exact IsiPair.int_dict (p1 rfl)
          · exact IsiPair.int_tuple (p1 rfl)
        · cases hr
    · cases h1
      split at hr
      · rename_i e; subst e; cases hr; exact IsiPair.str_str (p0 rfl)
      · split at hr
        · rename_i e; cases hr
          simp only [List.mem_cons, List.not_mem_nil, or_false] at e
          rcases e with rfl | rfl | rfl | rfl | rfl
          · exact IsiPair.str_bool (p1 rfl)
          · exact IsiPair.str_int (p1 rfl)
          · exact IsiPair.str_list (p1 rfl)
          · exact IsiPair.str_dict (p1 rfl)
          · exact IsiPair.str_tuple (p1 rfl)
        · cases hr
    · cases h1 with
      | @tup _ a ws ht hvs =>
      obtain ⟨o, ho, hc, _⟩ := ht
      split at hr
      · rename_i e; subst e; cases hr; exact IsiPair.tuple_tuple ho hc (p0 rfl)
      · split at hr
        · rename_i e; cases hr
          simp only [List.mem_cons, List.not_mem_nil, or_false] at e
          rcases e with rfl | rfl | rfl | rfl | rfl
          · exact IsiPair.tuple_bool ho hc (p1 rfl)
          · exact IsiPair.tuple_int ho hc (p1 rfl)
          · exact IsiPair.tuple_list ho hc (p1 rfl)
          · exact IsiPair.tuple_dict ho hc (p1 rfl)
          · exact IsiPair.tuple_str ho hc (p1 rfl)
        · cases hr
    · cases h1
      split at hr
      · rename_i hx
        obtain ⟨hz, ws, ⟨n, hn⟩, h2⟩ := R.view _ _ hx
        split at hr
        · rename_i e; subst e; cases hr; exact IsiPair.list_list hn rfl (p0 rfl)
        · split at hr
          · rename_i e; cases hr
            simp only [List.mem_cons, List.not_mem_nil, or_false] at e
            rcases e with rfl | rfl | rfl | rfl | rfl
            · exact IsiPair.list_bool hn rfl (p1 rfl)
            · exact IsiPair.list_int hn rfl (p1 rfl)
            · exact IsiPair.list_tuple hn rfl (p1 rfl)
            · exact IsiPair.list_dict hn rfl (p1 rfl)
            · exact IsiPair.list_str hn rfl (p1 rfl)
          · cases hr
      · rename_i hx
        obtain ⟨hz, ws, ⟨o, es, hn, hc, _⟩, h2⟩ := R.view _ _ hx
        split at hr
        · rename_i e; subst e; cases hr; exact IsiPair.dict_dict hn hc.1 (p0 rfl)
        · split at hr
          · rename_i e; cases hr
            simp only [List.mem_cons, List.not_mem_nil, or_false] at e
            rcases e with rfl | rfl | rfl | rfl | rfl
            · exact IsiPair.dict_bool hn hc.1 (p1 rfl)
            · exact IsiPair.dict_int hn hc.1 (p1 rfl)
            · exact IsiPair.dict_tuple hn hc.1 (p1 rfl)
            · exact IsiPair.dict_list hn hc.1 (p1 rfl)
            · exact IsiPair.dict_str hn hc.1 (p1 rfl)
          · cases hr
      · cases hr
    · cases hr
  · exact q.elim
/- min, max of two ints; int of a bool; str of an int -/
def spMin : Spec
  | [.int a, .int b], σ, Q => Q (.int (min a b)) σ
  | _, _, _ => False
def spMax : Spec
  | [.int a, .int b], σ, Q => Q (.int (max a b)) σ
  | _, _, _ => False
def spInt : Spec
  | [.bool b], σ, Q => Q (.int (if b then 1 else 0)) σ
  | _, _, _ => False
theorem ok_int : OpN C k (fun ws => PySem.call (.type "int") ws) spInt := by
  intro A s σ vs ws Q P E ao R hv q hP
  unfold spInt at q
  split at q
  · obtain ⟨wa, rfl, h1⟩ := hv.inv1
    cases h1
    exact call_int_bool (hP _ _ σ _ (.int _ _) (R.tok _) Step.refl q)
  · exact q.elim
def spStr : Spec
  | [.int i], σ, Q => i.natAbs.log2 < 1920 ∧ Q (.str (Str.ofString (toString i))) σ
  | _, _, _ => False
theorem ok_str : OpN C k (fun ws => PySem.call (.type "str") ws) spStr := by
  intro A s σ vs ws Q P E ao R hv q hP
  unfold spStr at q
  split at q
  · obtain ⟨wa, rfl, h1⟩ := hv.inv1
    cases h1
    exact _root_.PySem.P.str_of_int q.1 (hP _ _ σ _ (.str _ _) (R.tok _) Step.refl q.2)
  · exact q.elim
end
end Mine


end
noncomputable section
set_option autoImplicit false
set_option linter.unusedVariables false
namespace Mine
open PySem

section
variable {C : Cx} {sc : Scope} {k : Nat}
/- + -/
def opAdd : O2
  | .int x, .int y, σ, Q => Q (.int (x + y)) σ
  | .str x, .str y, σ, Q => x.length + y.length ≤ 16777216 ∧ Q (.str (x ++ y)) σ
  | .ref a, .ref b, σ, Q => ∃ xs ys, σ a = some (.list xs) ∧ σ b = some (.list ys) ∧ xs.length + ys.length ≤ 16777216 ∧ newL (xs ++ ys) σ Q
  | _, _, _, _ => False
theorem ok_add : Op2 C k (binaryOp .Add) opAdd := by
  intro A s σ a b wa wb Q P E ao R va vb q hP
  cases a <;> first | exact q.elim | skip
  all_goals (cases b <;> first | exact q.elim | skip)
  · cases va; cases vb
    exact _root_.PySem.P.add_int (hP _ _ σ _ (.int _ _) (R.tok _) Step.refl q)
  · cases va; cases vb
    exact SB.add (fun t' tk => hP _ _ σ _ (.str _ _) (R.tok _) Step.refl q.2) (by rw [sizeLine_eq]; exact q.1)
  · rename_i a b
    cases va; cases vb
    obtain ⟨xs, ys, hx, hy, hz, q⟩ := q
    obtain ⟨_, ws, ⟨n, h1⟩, h2⟩ := R.view _ _ hx
    obtain ⟨_, us, ⟨n', h3⟩, h4⟩ := R.view _ _ hy
    have e1 := h2.length
    have e2 := h4.length
    have e : ws.toArray ++ us.toArray = (ws ++ us).toArray := by simp
    refine concat_meets ⟨_, h1, rfl⟩ ⟨_, h3, rfl⟩ noFill_list_add seq_list_add _root_.PySem.F.slot_list_add _root_.PySem.F.entry_list_add (_root_.PySem.F.args_list_add_2 _ _)
      (PyProof.Rows.list_addW a b ws.toArray us.toArray n n' Option.none Option.none #[] #[] (by rw [List.size_toArray, List.size_toArray, sizeLine_eq]; omega)) ⟨h1, h3, ?_⟩
    rw [e]
    exact push_list (A := A) (tk := s.toks) R (h2.append h4) (by rw [List.length_append]; exact hz) q hP
theorem eqAt0 {A : Around} {s : Shared} {a b : V} {wa wb : Value} {r : Bool} (h : veq0 a b = some r) (va : VRel C.aS s.heap a wa) (vb : VRel C.aS s.heap b wb) : SeqAt.EqAt A s wa wb r := by
  unfold veq0 at h
  split at h <;> cases h <;> cases va <;> cases vb
  · exact SeqAt.EqAt.same _
  · exact SeqAt.EqAt.none_str _ _
  · exact SeqAt.EqAt.str_none _ _
  · exact SeqAt.EqAt.bool_bool _ _
  · rw [← beq_dec]; exact SeqAt.EqAt.int_int _ _ _ _
  · rw [← beq_dec]; exact SeqAt.EqAt.str_str _ _ _ _
theorem veq0_self {s : Shared} {a b : V} {w : Value} {r : Bool} (h : veq0 a b = some r) (va : VRel C.aS s.heap a w) (vb : VRel C.aS s.heap b w) : r = true := by
  unfold veq0 at h
  split at h <;> cases h <;> cases va <;> cases vb <;> simp
/- xs[i] = v -/
def sSetItem (op : V → V → V → View → (View → Prop) → Prop) (T To Ti : ET) : ST := fun m σ Q => T m σ fun v σ₁ => To m σ₁ fun o σ₂ => Ti m σ₂ fun i σ₃ => op o i v σ₃ fun σ₄ => Q .next m σ₄
def OpSet (C : Cx) (k : Nat) (op : V → V → V → View → (View → Prop) → Prop) : Prop :=
  ∀ (A : Around) (s : Shared) (σ : View) (o i v : V) (wo wi w : Value) (Q : View → Prop) (P : Unit → Shared → Prop) (E : Value → Shared → Prop), AOk C A k → RelG C σ s → VRel C.aS s.heap o wo → VRel C.aS s.heap i wi → VRel C.aS s.heap v w → op o i v σ Q →
    (∀ σ' s', RelG C σ' s' → Step no σ σ' s.heap s'.heap → Q σ' → P () s') → wpAny (model C.prog C.w) A (setItem wo wi w) P E s
theorem HS1.setItem {o i value : Expr} {p pos : Pos} {op : V → V → V → View → (View → Prop) → Prop} {T To Ti : ET} (hop : OpSet C k op) (hv : HE C sc k value T) (ho : HE C sc k o To) (hi : HE C sc k i Ti)
    (hs : ∀ env, EnvOk env sc → swapsWith value (some (.Subscript o i p)) pos.line env = pure false) : HS1 C sc k (.Assign [.Subscript o i p] value pos) (sSetItem op T To Ti) := by
  refine ⟨?_⟩; intro env A s m σ Q P E en ao R F q hP
  refine wpAny_Assign_Subscript (hv.run env A s m σ _ _ E en ao R F q fun v w σ₁ s₁ v1 R₁ S₁ q₁ => ?_) (hs env en)
  have F₁ := F.step R S₁
  refine ho.run env A s₁ m σ₁ _ _ E en ao R₁ F₁ q₁ fun o wo σ₂ s₂ v2 R₂ S₂ q₂ => ?_
  have F₂ := F₁.step R₁ S₂
  refine hi.run env A s₂ m σ₂ _ _ E en ao R₂ F₂ q₂ fun i wi σ₃ s₃ v3 R₃ S₃ q₃ => ?_
  have F₃ := F₂.step R₂ S₃
  have k₂ := S₂.tupsN R₁
  have k₃ := S₃.tupsN R₂
  refine hop A s₃ σ₃ o i v wo wi w _ _ E ao R₃ (v2.keep k₃) v3 ((v1.keep k₂).keep k₃) q₃ fun σ₄ s₄ R₄ S₄ q₄ => ?_
  have S := ((S₁.trans S₂).trans S₃).trans S₄
  exact hP .next .next m σ₄ s₄ .next R₄ (F.step R S) S.own q₄
/- a, b = t -/
def namesAt (l : List (String × Pos)) : List Expr := l.map fun p => Expr.Name (Str.ofString p.1) p.2
theorem each_cons (p : String × Pos) (l : List (String × Pos)) (env : Env) : assignEach (namesAt (p :: l)) env = (false, assign (.Name (Str.ofString p.1) p.2) env) :: assignEach (namesAt l) env := rfl
theorem each_len (env : Env) : ∀ (l : List (String × Pos)), (assignEach (namesAt l) env).length = l.length ∧ (assignEach (namesAt l) env).findIdx? (·.1) = Option.none
  | [] => ⟨rfl, rfl⟩
  | p :: r => by
    rw [each_cons]
    refine ⟨by simp [(each_len env r).1], ?_⟩
    rw [List.findIdx?_cons]
    simp [(each_len env r).2]
theorem assignNames {env : Env} {A : Around} {E : Value → Shared → Prop} (en : EnvOk env sc) (l : List (String × Pos)) : ∀ (vs : List V) (ws : List Value) (s : Shared) (m : Loc) (σ : View) (P : Unit → Shared → Prop), l.length = vs.length → (∀ x ∈ l, sc.names.lookup (Str.ofString x.1) = some .local) →
    RelG C σ s → FrameRel C env m σ s.heap → VRels C.aS s.heap vs ws →
    (∀ s', RelG C σ s' → FrameRel C env (bindM (l.map (·.1)) vs m) σ s'.heap → Step (fun b => b = env.locals) σ σ s.heap s'.heap → P () s') →
    wpAny (model C.prog C.w) A (assignInOrder ((assignEach (namesAt l) env).map (·.2)) ws) P E s := by
  induction l with
  | nil =>
    intro vs ws s m σ P h1 h2 R F hv h
    cases vs with
    | nil => cases hv; exact wpAny_pure (h s R F Step.refl)
    | cons => simp at h1
  | cons x l ih =>
    intro vs ws s m σ P h1 h2 R F hv h
    cases vs with
    | nil => simp at h1
    | cons v vs =>
      cases hv with | @cons _ w _ ws hv hvs =>
      rw [each_cons, List.map_cons]
      have e : assignInOrder (assign (.Name (Str.ofString x.1) x.2) env :: (assignEach (namesAt l) env).map (·.2)) (w :: ws) = (do holding ws (assign (.Name (Str.ofString x.1) x.2) env w); assignInOrder ((assignEach (namesAt l) env).map (·.2)) ws) := by rw [assignInOrder]
      show wpAny _ A (assignInOrder (assign (.Name (Str.ofString x.1) x.2) env :: (assignEach (namesAt l) env).map (·.2)) (w :: ws)) P E s
      rw [e]
      refine wpAny_bind (wpAny_holding (wpAny_assign_Name (store_local en R F (h2 x (.head _)) hv fun s₁ R₁ F₁ S₁ => ?_)))
      have kt : TupKeep s.heap s₁.heap := S₁.tups R fun b o z e => by subst z; exact F.ownT _ o (.inl rfl) e
      exact ih vs ws s₁ (put m x.1 v) σ P (by simpa using h1) (fun y hy => h2 y (.tail _ hy)) R₁ F₁ (hvs.keep kt) fun s₂ R₂ F₂ S₂ => h s₂ R₂ F₂ (S₁.trans S₂)
theorem FrameRel.grow {env : Env} {m : Loc} {σ : View} {h h' : Heap} (F : FrameRel C env m σ h) (keep : ∀ b o, h.get? b = some o → h'.get? b = some o) : FrameRel C env m σ h' := by
  have kt : TupKeep h h' := fun b o e _ => keep b o e
  have kc : ∀ c v, h.IsCell c v → h'.IsCell c v := fun c v ⟨o, ho, hd⟩ => ⟨o, keep c o ho, hd⟩
  obtain ⟨mm, hn, hv⟩ := F.ns
  refine ⟨⟨mm, hn.keeps keep, fun x v e k => ?_⟩, fun x v e => ?_, fun n c e => ?_, F.sepL, F.baseL, F.baseC, F.dist, F.has⟩
  · obtain ⟨w, h1, h2⟩ := hv x v e k; exact ⟨w, h1, h2.keep kt⟩
  · rcases F.cel x v e with q | ⟨q, c, w, h1, h2, h3⟩
    · exact .inl q
    · exact .inr ⟨q, c, w, h1, kc _ _ h2, h3.keep kt⟩
  · obtain ⟨v, hv⟩ := F.cells n c e; exact ⟨v, kc _ _ hv⟩
theorem HT.tup (O : C.Ok) {l : List (String × Pos)} {n : Nat} {pos : Pos} (hx : ∀ x ∈ l, sc.names.lookup (Str.ofString x.1) = some .local) : HT C sc k true (.Tuple (namesAt l) n pos) (.tup (l.map (·.1))) := by
  refine ⟨?_⟩; intro env A s m m' σ v w P E en ao R F hv hb hP
  cases v <;> simp only [bindT] at hb <;> first | cases hb | skip
  split at hb
  · rename_i vs hlen
    cases hb
    cases hv with | @tup _ t ws ht hvs =>
    have hlen' : l.length = vs.length := by simpa using hlen
    refine with_size (assignH (ao.hd O R) ht (by rw [(each_len env _).1, List.size_toArray, ← hvs.length, hlen']) (each_len env _).2 fun h' hx' => ?_)
    have keep : ∀ b o, s.heap.get? b = some o → h'.get? b = some o := fun b o e => hx' b o (Nat.ne_of_lt (Heap.lt_size e)) e
    have e : ws.toArray.toList = ws := by simp
    rw [e]
    refine assignNames en l vs ws _ m σ _ hlen' hx (R.grow (tk := s.toks) keep) (F.grow keep) (hvs.keep fun b o e _ => keep b o e) fun s₂ R₂ F₂ S₂ hsz => ?_
    exact hP s₂ R₂ F₂ ⟨fun b o e n q => S₂.keepL b o (keep b o e) n fun z => q (.inl z), hsz, fun _ a b => absurd a b⟩
  · cases hb
end
end Mine


end
noncomputable section
set_option autoImplicit false
namespace Mine
open PySem PySem.W PyProof.Rows PySem.Calls

/- the text's defs as they stand in the program -/
def bodyAt (p : Program) (n : Nat) : List Stmt := match p.main.body[n]? with | some (.FunctionDef _ _ b _ _ _ _ _ _ _) => b | _ => []
def scopeAt (p : Program) (n : Nat) : Scope := match p.main.body[n]? with | some (.FunctionDef _ _ _ _ _ _ s _ _ _) => s | _ => default
def parsAt (p : Program) (n : Nat) : Arguments := match p.main.body[n]? with | some (.FunctionDef _ a _ _ _ _ _ _ _ _) => a | _ => default
def posAt (p : Program) (n : Nat) : Pos := match p.main.body[n]? with | some (.FunctionDef _ _ _ _ _ _ _ _ _ q) => q | _ => default

/-- the def f of the text is at its place and keeps its contract -/
def FnAt (C : Cx) (j : Nat) (f : String) (spec : Spec) : Prop :=
  ∃ a o fd, C.mg (Str.ofString f) = some (.ref a) ∧ C.hB.get? a = some o ∧ o.data = .func fd ∧ FnSound C j a spec

/-- what the walk knows of the globals -/
structure Gl (C : Cx) (p : Program) : Prop where
  ok : C.Ok
  mb : ∀ x : Str, x ≠ "__name__" → C.mb x = bootBuiltins x
  free : ∀ x ∈ ["len", "range", "min", "max", "isinstance", "bool", "str", "int", "list", "dict", "set", "sorted", "tuple", "sum", "type"], C.mg (Str.ofString x) = Option.none
  fn : ∀ d ∈ recsOf p, ∃ a o pm code doc, C.mg d.name = some (.ref a) ∧ C.hB.get? a = some o ∧ o.data = .func (docDef d.name d.params d.body d.scope pm code doc) ∧ C.hB.CodeRec code d.name

variable {C : Cx} {p : Program}
theorem Gl.blt (G : Gl C p) {x : String} {v : Value} (h : bootBuiltins (Str.ofString x) = some v) (hx : x ≠ "__name__") : C.mb (Str.ofString x) = some v := by
  rw [G.mb _ (fun e => hx (ofString_inj e)), h]

theorem HE.callAt (G : Gl C p) {sc : Scope} {k : Nat} {f : String} {np pos : Pos} {es : List Expr} {L : LT} {spec : Spec} {j : Nat} (hf : FnAt C j f spec) (hj : j < k)
    (hn : sc.names.lookup (Str.ofString f) = some .globalImplicit) (hdb : (Str.ofString f == ("__debug__" : Str)) = false)
    (hl : HL C sc k es L) (hp : plainArgs es = true) : HE C sc k (.Call (.Name (Str.ofString f) np) es [] pos) (eCall spec L) := by
  obtain ⟨a, o, fd, h1, h2, h3, h4⟩ := hf
  exact HE.call G.ok h4 hj hn h1 h2 h3 hdb hl hp

theorem FnAt.mk (G : Gl C p) (i n : Nat) {f : String} {xs : List String} {j : Nat} {spec : Spec} {T : ST}
    (hm : (recsOf p)[i]? = some ⟨Str.ofString f, parsAt p n, bodyAt p n, scopeAt p n, posAt p n⟩)
    (hk : (scopeAt p n).kind = .function) (hfr : ((scopeAt p n).names.all fun q => q.2 != .free) = true) (hco : (scopeAt p n).isCoroutine = false) (hgen : (scopeAt p n).isGenerator = false)
    (hbind : ∀ (ws : List Value) (pm code doc : Value), ws.length = xs.length → bindArgs (docDef (Str.ofString f) (parsAt p n) (bodyAt p n) (scopeAt p n) pm code doc) ⟨ws, []⟩ = pure ((xs.map Str.ofString).zip ws))
    (hloc : (xs.all fun x => (scopeAt p n).names.lookup (Str.ofString x) == some .local || (scopeAt p n).names.lookup (Str.ofString x) == some .cell) = true)
    (hT : HS C (scopeAt p n) j (bodyAt p n) T)
    (hspec : ∀ vs σ Q, spec vs σ Q → vs.length = xs.length ∧ T (bindM xs vs none') σ fun f _ σ' => match f with | .ret v => Q v σ' | .next => Q .none σ' | _ => False) : FnAt C j f spec := by
  obtain ⟨a, o, pm, code, doc, h1, h2, h3, h4⟩ := G.fn _ (List.mem_of_getElem? hm)
  refine ⟨a, o, _, h1, h2, h3, FnSound.mk G.ok (xs := xs) h2 h3 h4 rfl rfl rfl rfl rfl hk ?_ hco hgen (fun ws hw => hbind ws pm code doc hw) ?_ hT hspec⟩
  · intro q hq
    have := List.all_eq_true.mp hfr q hq
    simpa using this
  · intro x hx
    have := List.all_eq_true.mp hloc x hx
    simp only [Bool.or_eq_true, beq_iff_eq] at this
    exact this

theorem ints_get {vs : List Value} {ns : List Int} (h : IntsAre vs ns) : vs.length = ns.length ∧ ∀ (i : Nat) n, ns[i]? = some n → ∃ t, vs[i]? = some (Value.int n t) := by
  induction h with
  | nil => exact ⟨rfl, fun i n e => by simp at e⟩
  | cons a t h ih =>
    refine ⟨by simp [ih.1], fun i n e => ?_⟩
    cases i with
    | zero => simp at e; subst e; exact ⟨_, rfl⟩
    | succ i => simpa using ih.2 i n (by simpa using e)
theorem Cx.ok_of {C : Cx} (hz : C.held = none) {vs : List Value} {loose : List Str} {mean : ExcName → Option Value} (T : Top p loose mean C.mg C.mb C.hB) (hi : importsNone p = true) (hL : C.hB.IsList C.aS vs.toArray) (hI : IntsAre vs C.ns) (hn : ¬ (63 : Int) < (C.ns.length : Int)) : C.Ok where
  g := T.g
  b := T.b
  nolimit := T.nolimit
  mods := by obtain ⟨mm, ⟨o, _, _, ho, _⟩, _⟩ := (T.seer hi).mods; exact ⟨o, ho⟩
  few := by omega
  heldOk := fun e he => by rw [hz] at he; cases he
  script := ⟨_, hL, by simpa using (ints_get hI).1, by simpa using (ints_get hI).2⟩
theorem Gl.of {C : Cx} {loose : List Str} {mean : ExcName → Option Value} (T : Top p loose mean C.mg C.mb C.hB) (ok : C.Ok)
    (hf : (["len", "range", "min", "max", "isinstance", "bool", "str", "int", "list", "dict", "set", "sorted", "tuple", "sum", "type"].all fun x : String => !(startupNames ++ loose ++ (recsOf p).map (·.name) ++ (litsOf p).map (·.1) ++ (clssOf p loose).map (·.name)).contains (Str.ofString x)) = true) : Gl C p where
  ok := ok
  mb := T.builtins
  fn := T.fn
  free := fun x hx => by
    have := List.all_eq_true.mp hf x hx
    simp only [Bool.not_eq_true', List.contains_eq_mem, decide_eq_false_iff_not, List.mem_append, not_or] at this
    obtain ⟨⟨⟨⟨h1, h2⟩, h3⟩, h4⟩, h5⟩ := this
    exact T.free _ h1 h2 h3 h4 h5
end Mine


end
noncomputable section
set_option autoImplicit false
namespace Mine
open PySem PySem.W PyProof.Rows PySem.Calls

section
variable {C : Cx} {p : Program} {sc : Scope} {k : Nat}
theorem bb_len : bootBuiltins (Str.ofString "len") = some (.builtin "len") := by decide +kernel
theorem bb_isi : bootBuiltins (Str.ofString "isinstance") = some (.builtin "isinstance") := by decide +kernel
theorem bb_range : bootBuiltins (Str.ofString "range") = some (.type "range") := by decide +kernel
theorem bb_str : bootBuiltins (Str.ofString "str") = some (.type "str") := by decide +kernel
theorem bb_int : bootBuiltins (Str.ofString "int") = some (.type "int") := by decide +kernel
theorem bb_list : bootBuiltins (Str.ofString "list") = some (.type "list") := by decide +kernel
theorem bb_dict : bootBuiltins (Str.ofString "dict") = some (.type "dict") := by decide +kernel
theorem HE.len (G : Gl C p) {np pos : Pos} {es : List Expr} {L : LT} (hn : sc.names.lookup (Str.ofString "len") = some .globalImplicit) (hl : HL C sc k es L) (hp : plainArgs es = true) : HE C sc k (.Call (.Name (Str.ofString "len") np) es [] pos) (eCall (spLen C.ns) L) :=
  HE.builtin G.ok (ok_len G.ok) hn (G.free _ (by decide)) (G.blt bb_len (by decide)) rfl hl hp
theorem HE.isi (G : Gl C p) {np pos : Pos} {es : List Expr} {L : LT} (hn : sc.names.lookup (Str.ofString "isinstance") = some .globalImplicit) (hl : HL C sc k es L) (hp : plainArgs es = true) : HE C sc k (.Call (.Name (Str.ofString "isinstance") np) es [] pos) (eCall spIsi L) :=
  HE.builtin G.ok ok_isi hn (G.free _ (by decide)) (G.blt bb_isi (by decide)) rfl hl hp
theorem HE.intC (G : Gl C p) {np pos : Pos} {es : List Expr} {L : LT} (hn : sc.names.lookup (Str.ofString "int") = some .globalImplicit) (hl : HL C sc k es L) (hp : plainArgs es = true) : HE C sc k (.Call (.Name (Str.ofString "int") np) es [] pos) (eCall spInt L) :=
  HE.btype G.ok ok_int hn (G.free _ (by decide)) (G.blt bb_int (by decide)) rfl hl hp
theorem HE.strC (G : Gl C p) {np pos : Pos} {es : List Expr} {L : LT} (hn : sc.names.lookup (Str.ofString "str") = some .globalImplicit) (hl : HL C sc k es L) (hp : plainArgs es = true) : HE C sc k (.Call (.Name (Str.ofString "str") np) es [] pos) (eCall spStr L) :=
  HE.btype G.ok ok_str hn (G.free _ (by decide)) (G.blt bb_str (by decide)) rfl hl hp
theorem HI.rng (G : Gl C p) (hz : C.held = Option.none) {np pos : Pos} {es : List Expr} {L : LT} (hn : sc.names.lookup (Str.ofString "range") = some .globalImplicit) (hl : HL C sc k es L) (hp : plainArgs es = true) : HI C sc k (.Call (.Name (Str.ofString "range") np) es [] pos) (iRange L) :=
  HI.range G.ok hz hl hp hn (G.free _ (by decide)) (G.blt bb_range (by decide))
theorem HE.gDict (G : Gl C p) {pos : Pos} (h : sc.names.lookup (Str.ofString "dict") = some .globalImplicit) : HE C sc k (.Name (Str.ofString "dict") pos) (eVal (.ty "dict")) := HE.gty G.ok h (G.free _ (by decide)) (G.blt bb_dict (by decide)) rfl
/- methods -/
theorem HE.split {o : Expr} {apos pos : Pos} {es : List Expr} {To : ET} {L : LT} (ho : HE C sc k o To) (hl : HL C sc k es L) (hp : plainArgs es = true)
    (hbase : ∀ env, attributeBase o (Str.ofString "split") env (eval o env) = eval o env) (hline : (apos.endLine == pos.line) = true) (hfew : es.length < 30) : HE C sc k (.Call (.Attribute o (Str.ofString "split") apos) es [] pos) (eMeth tyStr spSplit To L) :=
  HE.meth tyStr_ok F.plainAttrs_str F.slot_str_split F.type_str_split ok_split ho hl hp hbase hline hfew
theorem HE.join {o : Expr} {apos pos : Pos} {es : List Expr} {To : ET} {L : LT} (ho : HE C sc k o To) (hl : HL C sc k es L) (hp : plainArgs es = true)
    (hbase : ∀ env, attributeBase o (Str.ofString "join") env (eval o env) = eval o env) (hline : (apos.endLine == pos.line) = true) (hfew : es.length < 30) : HE C sc k (.Call (.Attribute o (Str.ofString "join") apos) es [] pos) (eMeth tyStr spJoin To L) :=
  HE.meth tyStr_ok F.plainAttrs_str F.slot_str_join F.type_str_join ok_join ho hl hp hbase hline hfew
theorem HE.starts {o : Expr} {apos pos : Pos} {es : List Expr} {To : ET} {L : LT} (ho : HE C sc k o To) (hl : HL C sc k es L) (hp : plainArgs es = true)
    (hbase : ∀ env, attributeBase o (Str.ofString "startswith") env (eval o env) = eval o env) (hline : (apos.endLine == pos.line) = true) (hfew : es.length < 30) : HE C sc k (.Call (.Attribute o (Str.ofString "startswith") apos) es [] pos) (eMeth tyStr spStarts To L) :=
  HE.meth tyStr_ok F.plainAttrs_str F.slot_str_startswith F.type_str_startswith ok_starts ho hl hp hbase hline hfew
theorem HE.item (G : Gl C p) {value slice : Expr} {pos : Pos} {T U : ET} (hv : HE C sc k value T) (hi : HE C sc k slice U) (hs : isSlice slice = false) : HE C sc k (.Subscript value slice pos) (eBin (opItem C.ns) T U) :=
  HE.sub hv hi (ok_item G.ok hs)

/- the tables of a comprehension -/
def compOk (sc cs : Scope) (fv gs : List String) : Bool :=
  cs.kind == .function && cs.names.all (fun y => y.2 != .cell) && cs.names.all (fun y => y.2 != .local || cs.names.lookup y.1 == some .local) && decide (cs.names.map (·.1)).Nodup &&
  cs.names.all (fun q => q.2 != .free || fv.any fun x => Str.ofString x == q.1) && fv.all (fun x => cs.names.contains (Str.ofString x, NameKind.free) && (sc.names.lookup (Str.ofString x) == some .cell || sc.names.lookup (Str.ofString x) == some .free)) && gs.all fun x => !fv.contains x
theorem CompOk.of {sc cs : Scope} {fv : List String} {g : Tgt} (h : compOk sc cs fv g.names = true) : CompOk sc cs fv g := by
  unfold compOk at h
  simp only [Bool.and_eq_true, List.all_eq_true, Bool.or_eq_true, bne_iff_ne, beq_iff_eq, decide_eq_true_eq, List.any_eq_true, Bool.not_eq_true', List.contains_eq_mem, decide_eq_false_iff_not] at h
  obtain ⟨⟨⟨⟨⟨⟨h1, h2⟩, h3⟩, h4⟩, h5⟩, h6⟩, h7⟩ := h
  refine ⟨h1, h2, fun y hy e => (h3 y hy).elim (fun n => absurd e n) id, h4, fun q hq e => (h5 q hq).elim (fun n => absurd e n) id, fun x hx => ⟨(h6 x hx).1, (h6 x hx).2⟩, h7⟩
theorem swaps_local {elt : Expr} {gens : List Comprehension} {cs : Scope} {pos : Pos} {t : Str} {q : Pos} {line : Nat} (h : sc.names.lookup t = some .local) (hl : (q.line == pos.line) = true) (hn : (cs.names.any fun y => y.1 == t && (y.2 == .local || y.2 == .cell)) = false) :
    ∀ env, EnvOk env sc → swapsWith (.ListComp elt gens cs pos) (some (.Name t q)) line env = pure true := by
  intro env en
  unfold swapsWith
  have e : env.kindOf t = some .local := en.of h
  have e2 : env.blockKind = .function := by unfold Env.blockKind; rw [en.k]; rfl
  have e3 : (Expr.ListComp elt gens cs pos).pos.line = pos.line := rfl
  simp only [e, e2, e3, hl, hn]
  rfl
end
end Mine


end
noncomputable section
set_option autoImplicit false
namespace Mine
open PySem PySem.W PyProof.Rows PySem.Calls

def Grow (σ σ' : View) : Prop := ∀ b o, σ b = some o → σ' b = some o
theorem Grow.refl {σ : View} : Grow σ σ := fun _ _ e => e
theorem Grow.trans {σ₁ σ₂ σ₃ : View} (h : Grow σ₁ σ₂) (h' : Grow σ₂ σ₃) : Grow σ₁ σ₃ := fun b o e => h' b o (h b o e)
theorem Grow.upd {σ σ' : View} {a : Addr} {o : AObj} (h : Grow σ σ') (ha : σ' a = Option.none) : Grow σ (upd σ' a o) := fun b o' e => by
  rw [upd_old ha (h b o' e)]
theorem Grow.none {σ σ' : View} (h : Grow σ σ') {a : Addr} (ha : σ' a = Option.none) : σ a = Option.none := by
  cases e : σ a with
  | none => rfl
  | some o => rw [h a o e] at ha; cases ha

theorem forL_inv {g : Tgt} {inv : View → Prop} {T : ST} (I : Nat → Loc → View → Prop) (R : V → Loc → View → Prop) (hinv : ∀ i m σ, I i m σ → inv σ) (items : List V) {Q : Fl → Loc → View → Prop}
    (step : ∀ i v m σ Q', items[i]? = some v → I i m σ → (∀ m' σ', I (i + 1) m' σ' → Q' .next m' σ') → (∀ m' σ', I (i + 1) m' σ' → Q' .cont m' σ') → (∀ u m' σ', R u m' σ' → Q' (.ret u) m' σ') → ∃ m', bindT g v m = some m' ∧ T m' σ Q')
    (done : ∀ m σ, I items.length m σ → Q .next m σ) (ret : ∀ u m σ, R u m σ → Q (.ret u) m σ) : ∀ (m : Loc) (σ : View), I 0 m σ → forL g inv T items m σ Q := by
  have key : ∀ (n : Nat) (i : Nat) (m : Loc) (σ : View), n = items.length - i → i ≤ items.length → I i m σ → forL g inv T (items.drop i) m σ Q := by
    intro n
    induction n with
    | zero =>
      intro i m σ hn hi h
      have : i = items.length := by omega
      subst this
      rw [List.drop_length]
      exact ⟨hinv _ _ _ h, done m σ h⟩
    | succ n ih =>
      intro i m σ hn hi h
      have hlt : i < items.length := by omega
      rw [List.drop_eq_getElem_cons hlt]
      simp only [forL]
      refine ⟨hinv _ _ _ h, step i _ m σ _ (List.getElem?_eq_getElem hlt) h (fun m' σ' h' => ih (i + 1) m' σ' (by omega) (by omega) h') (fun m' σ' h' => ih (i + 1) m' σ' (by omega) (by omega) h') fun u m' σ' h' => ret u m' σ' h'⟩
  intro m σ h
  have := key items.length 0 m σ (by omega) (by omega) h
  simpa using this

@[simp] theorem put_at (m : Loc) (x y : String) (v : V) : put m x v y = if y = x then some v else m y := rfl
@[simp] theorem only_at (fv : List String) (m : Loc) (x : String) : only fv m x = if x ∈ fv then m x else Option.none := rfl
theorem len1 {ws : List Value} (h : ws.length = 1) : ∃ a, ws = [a] := by
  match ws, h with
  | [a], _ => exact ⟨a, rfl⟩
theorem len2 {ws : List Value} (h : ws.length = 2) : ∃ a b, ws = [a, b] := by
  match ws, h with
  | [a, b], _ => exact ⟨a, b, rfl⟩
theorem len3 {ws : List Value} (h : ws.length = 3) : ∃ a b c, ws = [a, b, c] := by
  match ws, h with
  | [a, b, c], _ => exact ⟨a, b, c, rfl⟩
theorem range_get {a : Int} {n i : Nat} {v : V} (h : (rangeL a n)[i]? = some v) : i < n ∧ v = .int (a + i) := by
  unfold rangeL at h
  rw [List.getElem?_map] at h
  obtain ⟨j, hj, rfl⟩ := Option.map_eq_some_iff.mp h
  obtain ⟨hlt, hji⟩ := List.getElem?_eq_some_iff.mp hj
  simp at hji hlt
  subst hji
  exact ⟨hlt, rfl⟩
theorem range_len (a : Int) (n : Nat) : (rangeL a n).length = n := by simp [rangeL]
/-- the cell of the script -/
def cell (ns : List Int) (k : Int) : Int := ns.getD k.toNat 0
/-- the rest of a block -/
def kont (U : ST) (Q : Fl → Loc → View → Prop) : Fl → Loc → View → Prop := fun f m σ => match f with
  | .next => U m σ Q
  | f => Q f m σ
theorem seq_eq (T U : ST) (m : Loc) (σ : View) (Q : Fl → Loc → View → Prop) : sSeq T U m σ Q = T m σ (kont U Q) := by
  unfold sSeq kont; rfl
@[simp] theorem kont_next (U : ST) (Q : Fl → Loc → View → Prop) (m : Loc) (σ : View) : kont U Q .next m σ = U m σ Q := rfl
@[simp] theorem kont_cont (U : ST) (Q : Fl → Loc → View → Prop) (m : Loc) (σ : View) : kont U Q .cont m σ = Q .cont m σ := rfl
@[simp] theorem kont_brk (U : ST) (Q : Fl → Loc → View → Prop) (m : Loc) (σ : View) : kont U Q .brk m σ = Q .brk m σ := rfl
@[simp] theorem kont_ret (U : ST) (Q : Fl → Loc → View → Prop) (v : V) (m : Loc) (σ : View) : kont U Q (.ret v) m σ = Q (.ret v) m σ := rfl
/-- what the end of a def hands on -/
def fin (Q : V → View → Prop) : Fl → Loc → View → Prop := fun f _ σ' => match f with | .ret v => Q v σ' | .next => Q .none σ' | _ => False
@[simp] theorem fin_ret (Q : V → View → Prop) (v : V) (m : Loc) (σ : View) : fin Q (.ret v) m σ = Q v σ := rfl
@[simp] theorem fin_next (Q : V → View → Prop) (m : Loc) (σ : View) : fin Q .next m σ = Q .none σ := rfl
section
variable {m : Loc} {σ : View} {Q : V → View → Prop} {R : Fl → Loc → View → Prop} {B : Bool → View → Prop} {K : List V → View → Prop} {J : List V → (View → Prop) → View → Prop} {O : Option Int → View → Prop} {ns : List Int}
@[simp] theorem sSet_eq {x : String} {T : ET} : sSet x T m σ R = T m σ fun v σ' => R .next (put m x v) σ' := rfl
@[simp] theorem sRet_eq {T : ET} : sRet T m σ R = T m σ fun v σ' => R (.ret v) m σ' := rfl
@[simp] theorem sIf_eq {b : BT} {T U : ST} : sIf b T U m σ R = b m σ fun b σ' => if b then T m σ' R else U m σ' R := rfl
@[simp] theorem sNil_eq : sNil m σ R = R .next m σ := rfl
@[simp] theorem sExpr_eq {T : ET} : sExpr T m σ R = T m σ fun _ σ' => R .next m σ' := rfl
@[simp] theorem sCont_eq : sCont m σ R = R .cont m σ := rfl
@[simp] theorem sFor_eq {g : Tgt} {I : IT} {T : ST} : sFor g I T m σ R = I m σ fun items inv σ' => forL g inv T items m σ' R := rfl
@[simp] theorem sSetItem_eq {op : V → V → V → View → (View → Prop) → Prop} {T To Ti : ET} : sSetItem op T To Ti m σ R = T m σ fun v σ₁ => To m σ₁ fun o σ₂ => Ti m σ₂ fun i σ₃ => op o i v σ₃ fun σ₄ => R .next m σ₄ := rfl
@[simp] theorem eName_eq {x : String} : eName x m σ Q = ∃ v, m x = some v ∧ Q v σ := rfl
@[simp] theorem eVal_eq {v : V} : eVal v m σ Q = Q v σ := rfl
@[simp] theorem eBin_eq {op : O2} {T U : ET} : eBin op T U m σ Q = T m σ fun a σ₁ => U m σ₁ fun b σ₂ => op a b σ₂ Q := rfl
@[simp] theorem eUn_eq {op : O1} {T : ET} : eUn op T m σ Q = T m σ fun a σ₁ => op a σ₁ Q := rfl
@[simp] theorem eCall_eq {spec : Spec} {L : LT} : eCall spec L m σ Q = L m σ fun vs σ' => spec vs σ' Q := rfl
@[simp] theorem eMeth_eq {ty : V → View → Prop} {op : Spec} {T : ET} {L : LT} : eMeth ty op T L m σ Q = T m σ fun o σ₁ => ty o σ₁ ∧ L m σ₁ fun vs σ₂ => op (o :: vs) σ₂ Q := rfl
@[simp] theorem lNil_eq : lNil m σ K = K [] σ := rfl
@[simp] theorem lCons_eq {T : ET} {L : LT} : lCons T L m σ K = T m σ fun v σ₁ => L m σ₁ fun vs σ₂ => K (v :: vs) σ₂ := rfl
@[simp] theorem eTup_eq {L : LT} : eTup L m σ Q = L m σ fun vs σ₁ => vs.length ≤ 1000 ∧ Q (.tup vs) σ₁ := rfl
@[simp] theorem eList_eq {L : LT} : eList L m σ Q = L m σ fun vs σ₁ => vs.length ≤ 1000 ∧ newL vs σ₁ Q := rfl
@[simp] theorem tNot_eq {T : BT} : tNot T m σ B = T m σ fun b σ' => B (!b) σ' := rfl
@[simp] theorem tAnd_eq {T U : BT} : tAnd T U m σ B = T m σ fun b σ' => if b then U m σ' B else B false σ' := rfl
@[simp] theorem tOr_eq {T U : BT} : tOr T U m σ B = T m σ fun b σ' => if b then B true σ' else U m σ' B := rfl
@[simp] theorem tT_eq : tT m σ B = B true σ := rfl
@[simp] theorem tF_eq : tF m σ B = B false σ := rfl
@[simp] theorem eComp_eq {fv : List String} {g : Tgt} {I : IT} {b : BT} {T : ET} : eComp fv g I b T m σ Q = I m σ fun items inv σ' => compL g inv b T (only fv m) items [] σ' fun ys σ'' => newL ys σ'' Q := rfl
@[simp] theorem iOf_eq {T : ET} : iOf ns T m σ J = T m σ fun v σ' => iterOf ns v σ' J := rfl
@[simp] theorem iRange_eq {L : LT} : iRange L m σ J = L m σ fun vs σ' => rangeOf vs σ' J := rfl
@[simp] theorem eCut_eq {T : ET} {L U : Loc → View → (Option Int → View → Prop) → Prop} : eCut ns T L U m σ Q = T m σ fun v σ₁ => L m σ₁ fun lo σ₂ => U m σ₂ fun hi σ₃ => opCut ns lo hi v σ₃ Q := rfl
@[simp] theorem pNone_eq : pNone m σ O = O Option.none σ := rfl
@[simp] theorem pSome_eq {T : ET} : pSome T m σ O = T m σ fun v σ' => ∃ i, v = .int i ∧ O (some i) σ' := rfl
@[simp] theorem bindT_name {x : String} {v : V} : bindT (.name x) v m = some (put m x v) := rfl
@[simp] theorem bindM_cons {x : String} {xs : List String} {v : V} {vs : List V} : bindM (x :: xs) (v :: vs) m = bindM xs vs (put m x v) := rfl
@[simp] theorem bindM_nil {vs : List V} : bindM [] vs m = m := by cases vs <;> rfl
@[simp] theorem none_at {x : String} : none' x = Option.none := rfl
end
def isB (v : V) (F : Bool → Prop) : Prop := ∃ b, v = .bool b ∧ F b
@[simp] theorem isB_bool (c : Bool) (F : Bool → Prop) : isB (.bool c) F = F c := propext ⟨fun ⟨_, e, h⟩ => by cases e; exact h, fun h => ⟨c, rfl, h⟩⟩
@[simp] theorem tBool_eq (T : ET) (m : Loc) (σ : View) (Q : Bool → View → Prop) : tBool T m σ Q = T m σ (fun v σ' => isB v fun b => Q b σ') := rfl
@[simp] theorem eAnd_eq (T U : ET) (m : Loc) (σ : View) (Q : V → View → Prop) : eAnd T U m σ Q = T m σ (fun v σ' => isB v fun b => if b then U m σ' Q else Q (.bool false) σ') := rfl
@[simp] theorem eOr_eq (T U : ET) (m : Loc) (σ : View) (Q : V → View → Prop) : eOr T U m σ Q = T m σ (fun v σ' => isB v fun b => if b then Q (.bool true) σ' else U m σ' Q) := rfl
@[simp] theorem tCmp2_eq (o1 o2 : O2) (T U W : ET) (m : Loc) (σ : View) (Q : Bool → View → Prop) : tCmp2 o1 o2 T U W m σ Q = T m σ (fun a σ₁ => U m σ₁ fun b σ₂ => o1 a b σ₂ fun v σ₃ => isB v fun x => if x then W m σ₃ fun c σ₄ => o2 b c σ₄ fun u σ₅ => isB u fun y => Q y σ₅ else Q false σ₃) := rfl
section
variable {σ : View} {Q : V → View → Prop} {ns : List Int}
@[simp] theorem add_int {x y : Int} : opAdd (.int x) (.int y) σ Q = Q (.int (x + y)) σ := rfl
@[simp] theorem add_str {x y : Str} : opAdd (.str x) (.str y) σ Q = (x.length + y.length ≤ 16777216 ∧ Q (.str (x ++ y)) σ) := rfl
@[simp] theorem sub_int {x y : Int} : opSub (.int x) (.int y) σ Q = Q (.int (x - y)) σ := rfl
@[simp] theorem mul_int {x y : Int} : opMul (.int x) (.int y) σ Q = ((Short x ∨ Short y) ∧ Q (.int (x * y)) σ) := rfl
@[simp] theorem mod_int {x y : Int} : opMod (.int x) (.int y) σ Q = (0 < y ∧ Q (.int (x % y)) σ) := rfl
@[simp] theorem div_int {x y : Int} : opDiv (.int x) (.int y) σ Q = ((0 < y ∧ y < 1073741824) ∧ Q (.int (x / y)) σ) := rfl
@[simp] theorem lt_int {x y : Int} : opLt (.int x) (.int y) σ Q = Q (.bool (decide (x < y))) σ := rfl
@[simp] theorem le_int {x y : Int} : opLe (.int x) (.int y) σ Q = Q (.bool (decide (x ≤ y))) σ := rfl
@[simp] theorem gt_int {x y : Int} : opGt (.int x) (.int y) σ Q = Q (.bool (decide (y < x))) σ := rfl
@[simp] theorem ge_int {x y : Int} : opGe (.int x) (.int y) σ Q = Q (.bool (decide (y ≤ x))) σ := rfl
@[simp] theorem neg_int {x : Int} : opNeg (.int x) σ Q = Q (.int (-x)) σ := rfl
theorem eq_one {α : Type} {a : α} {F : α → Prop} : (∃ r, some a = some r ∧ F r) = F a := by simp
@[simp] theorem eq_int {x y : Int} : opEq0 (.int x) (.int y) σ Q = Q (.bool (decide (x = y))) σ := eq_one
@[simp] theorem eq_str {x y : Str} : opEq0 (.str x) (.str y) σ Q = Q (.bool (decide (x = y))) σ := eq_one
@[simp] theorem eq_bool {x y : Bool} : opEq0 (.bool x) (.bool y) σ Q = Q (.bool (x == y)) σ := eq_one
@[simp] theorem eq_nn : opEq0 .none .none σ Q = Q (.bool true) σ := eq_one
@[simp] theorem eq_ns {y : Str} : opEq0 .none (.str y) σ Q = Q (.bool false) σ := eq_one
@[simp] theorem eq_sn {y : Str} : opEq0 (.str y) .none σ Q = Q (.bool false) σ := eq_one
@[simp] theorem ne_int {x y : Int} : opNe0 (.int x) (.int y) σ Q = Q (.bool (!decide (x = y))) σ := eq_one
@[simp] theorem ne_str {x y : Str} : opNe0 (.str x) (.str y) σ Q = Q (.bool (!decide (x = y))) σ := eq_one
@[simp] theorem ne_bool {x y : Bool} : opNe0 (.bool x) (.bool y) σ Q = Q (.bool (!(x == y))) σ := eq_one
@[simp] theorem ne_nn : opNe0 .none .none σ Q = Q (.bool false) σ := eq_one
@[simp] theorem ne_ns {y : Str} : opNe0 .none (.str y) σ Q = Q (.bool true) σ := eq_one
@[simp] theorem ne_sn {y : Str} : opNe0 (.str y) .none σ Q = Q (.bool true) σ := eq_one
@[simp] theorem in_str {x y : Str} : opInS (.str y) (.str x) σ Q = Q (.bool (Txt.contains x y)) σ := rfl
@[simp] theorem notin_str {x y : Str} : opNotInS (.str y) (.str x) σ Q = Q (.bool (!Txt.contains x y)) σ := rfl
@[simp] theorem len_str {x : Str} : spLen ns [.str x] σ Q = (x.length ≤ 16777216 ∧ Q (.int x.length) σ) := rfl
@[simp] theorem len_script : spLen ns [.script] σ Q = Q (.int ns.length) σ := rfl
@[simp] theorem len_tup {vs : List V} : spLen ns [.tup vs] σ Q = (vs.length ≤ 16777216 ∧ Q (.int vs.length) σ) := rfl
theorem len_list {a : Addr} {xs : List V} (h : σ a = some (.list xs)) : spLen ns [.ref a] σ Q = Q (.int xs.length) σ := by unfold spLen; simp [h]
theorem len_dict {a : Addr} {kvs : List (Str × V)} {ep : Nat} (h : σ a = some (.dict kvs ep)) : spLen ns [.ref a] σ Q = Q (.int kvs.length) σ := by unfold spLen; simp [h]
@[simp] theorem min_int {x y : Int} : spMin [.int x, .int y] σ Q = Q (.int (min x y)) σ := rfl
@[simp] theorem max_int {x y : Int} : spMax [.int x, .int y] σ Q = Q (.int (max x y)) σ := rfl
@[simp] theorem int_bool {b : Bool} : spInt [.bool b] σ Q = Q (.int (if b then 1 else 0)) σ := rfl
@[simp] theorem str_int {i : Int} : spStr [.int i] σ Q = (i.natAbs.log2 < 1920 ∧ Q (.str (Str.ofString (toString i))) σ) := rfl
@[simp] theorem starts_str {x y : Str} : spStarts [.str x, .str y] σ Q = Q (.bool (Txt.startswith x y)) σ := rfl
@[simp] theorem split_str {x y : Str} : spSplit [.str x, .str y] σ Q = ((y.length = 1 ∧ x.length ≤ 1048576) ∧ newL ((Txt.split x y).map .str) σ Q) := rfl
theorem join_list {x : Str} {a : Addr} {ys : List Str} (h : σ a = some (.list (ys.map .str))) (hl : (ys.map (·.length)).sum + ys.length * x.length ≤ 16777216) (q : Q (.str (Str.join x ys)) σ) : spJoin [.str x, .ref a] σ Q := ⟨ys, h, hl, q⟩
@[simp] theorem isi_bool {b : Bool} : spIsi [.bool b, .ty "bool"] σ Q = Q (.bool true) σ := by simp [spIsi, Mine.isi]
@[simp] theorem isi_str {b : Str} : spIsi [.str b, .ty "str"] σ Q = Q (.bool true) σ := by simp [spIsi, Mine.isi]
@[simp] theorem isi_int {b : Int} : spIsi [.int b, .ty "int"] σ Q = Q (.bool true) σ := by simp [spIsi, Mine.isi]
@[simp] theorem isi_tup {vs : List V} : spIsi [.tup vs, .ty "tuple"] σ Q = Q (.bool true) σ := by simp [spIsi, Mine.isi]
theorem isi_dict {a : Addr} {kvs : List (Str × V)} {ep : Nat} (h : σ a = some (.dict kvs ep)) : spIsi [.ref a, .ty "dict"] σ Q = Q (.bool true) σ := by
  simp [spIsi, Mine.isi, h]
@[simp] theorem tyStr_str {x : Str} : tyStr (.str x) σ = True := rfl
@[simp] theorem range_1 {n : Int} {R : List V → (View → Prop) → View → Prop} : rangeOf [.int n] σ R = ((-(2 ^ 62) ≤ n ∧ n < 2 ^ 62) ∧ R (rangeL 0 n.toNat) (fun _ => True) σ) := rfl
@[simp] theorem range_2 {a b : Int} {R : List V → (View → Prop) → View → Prop} : rangeOf [.int a, .int b] σ R = ((-(2 ^ 62) ≤ a ∧ a < 2 ^ 62 ∧ -(2 ^ 62) ≤ b ∧ b < 2 ^ 62) ∧ R (rangeL a (b - a).toNat) (fun _ => True) σ) := rfl
@[simp] theorem iter_str {x : Str} {R : List V → (View → Prop) → View → Prop} : iterOf ns (.str x) σ R = R (signs x) (fun _ => True) σ := rfl
theorem iter_list {a : Addr} {xs : List V} (h : σ a = some (.list xs)) {R : List V → (View → Prop) → View → Prop} : iterOf ns (.ref a) σ R = R xs (fun σ => σ a = some (.list xs)) σ := by unfold iterOf; simp [h]
theorem item_list {a : Addr} {xs : List V} {i : Int} {v : V} (h : σ a = some (.list xs)) (h0 : 0 ≤ i) (hv : xs[i.toNat]? = some v) (q : Q v σ) : opItem ns (.ref a) (.int i) σ Q := by
  refine ⟨xs, i.toNat, v, h, ?_, hv, q⟩
  have hlt := (List.getElem?_eq_some_iff.mp hv).1
  unfold idx
  rw [if_pos h0, if_pos (by omega)]
theorem item_str {x : Str} {i : Int} {c : Nat} (hz : x.length < 16777217) (h0 : 0 ≤ i) (hv : x.cps.toList[i.toNat]? = some c) (q : Q (.str ⟨#[c]⟩) σ) : opItem ns (.str x) (.int i) σ Q := by
  refine ⟨hz, i.toNat, c, ?_, hv, q⟩
  have hlt := (List.getElem?_eq_some_iff.mp hv).1
  have : x.length = x.cps.toList.length := by simp [Str.length]
  unfold idx
  rw [if_pos h0, if_pos (by rw [this]; omega)]
theorem cut_list {a : Addr} {xs : List V} {lo hi : Option Int} (h : σ a = some (.list xs)) (q : newL (pyCut xs lo hi) σ Q) : opCut ns lo hi (.ref a) σ Q := ⟨xs, h, q⟩
/-- the script's cell -/
theorem cell_item {k : Int} (h0 : 0 ≤ k) (h : k < ns.length) (q : Q (.int (cell ns k)) σ) : opItem ns .script (.int k) σ Q := by
  refine ⟨k.toNat, ns.getD k.toNat 0, h0, ?_, ?_, q⟩
  · unfold idx; rw [if_pos h0, if_pos h]
  · rw [List.getD_eq_getElem?_getD]
    cases e : ns[k.toNat]? with
    | none => rw [List.getElem?_eq_none_iff] at e; omega
    | some n => rfl
theorem cell_out {k : Int} (h0 : 0 ≤ k) (h : ¬ k < ns.length) : cell ns k = 0 := by
  unfold cell
  rw [List.getD_eq_getElem?_getD, List.getElem?_eq_none (by omega)]; rfl
theorem cut_take {α : Type} (l : List α) {n : Int} (h0 : 0 ≤ n) : pyCut l Option.none (some n) = l.take n.toNat := by
  unfold pyCut clip clipAt
  simp
  rw [if_neg (by omega)]; omega
end
end Mine


end
noncomputable section
set_option autoImplicit false
namespace Mine
open PySem PySem.W PyProof.Rows PySem.Calls

/- texts as lists of signs -/
abbrev cl (x : Str) : List Nat := x.cps.toList
theorem cl_inj {x y : Str} (h : cl x = cl y) : x = y := by
  cases x; cases y; simp [cl] at h; rw [h]
theorem cl_append (x y : Str) : cl (x ++ y) = cl x ++ cl y := by
  show (x.cps ++ y.cps).toList = _; simp
theorem cl_len (x : Str) : x.length = (cl x).length := by simp [Str.length]
def jn (c : Nat) : List (List Nat) → List Nat
  | [] => []
  | [x] => x
  | x :: y :: r => x ++ c :: jn c (y :: r)
theorem cl_join (c : Nat) : ∀ xs : List Str, cl (Str.join ⟨#[c]⟩ xs) = jn c (xs.map cl)
  | [] => rfl
  | [x] => rfl
  | x :: y :: r => by
    have ih := cl_join c (y :: r)
    simp only [List.map_cons] at ih
    simp only [List.map_cons, jn, Str.join, cl_append, ih]
    rw [List.append_assoc]; rfl
def Free (c : Nat) (xs : List (List Nat)) : Prop := ∀ x ∈ xs, c ∉ x
theorem cut_eq {c : Nat} : ∀ {x y a b : List Nat}, c ∉ x → c ∉ y → x ++ c :: a = y ++ c :: b → x = y ∧ a = b
  | [], [], a, b, _, _, h => by simp at h; exact ⟨rfl, h⟩
  | [], d :: y, a, b, _, hy, h => by simp at h; exact absurd (h.1 ▸ List.mem_cons_self ..) hy
  | d :: x, [], a, b, hx, _, h => by simp at h; exact absurd (h.1 ▸ List.mem_cons_self ..) hx
  | d :: x, e :: y, a, b, hx, hy, h => by
    simp at h hx hy
    obtain ⟨rfl, h⟩ := h
    obtain ⟨rfl, rfl⟩ := cut_eq hx.2 hy.2 h
    exact ⟨rfl, rfl⟩
theorem jn_inj {c : Nat} : ∀ {xs ys : List (List Nat)}, Free c xs → Free c ys → xs ≠ [] → ys ≠ [] → jn c xs = jn c ys → xs = ys
  | [], _, _, _, h, _, _ => absurd rfl h
  | _, [], _, _, _, h, _ => absurd rfl h
  | [x], [y], _, _, _, _, e => by simp [jn] at e; rw [e]
  | [x], y :: z :: r, fx, _, _, _, e => by
    simp only [jn] at e
    exact absurd (by rw [e]; simp) (fx x (.head _))
  | x :: z :: r, [y], _, fy, _, _, e => by
    simp only [jn] at e
    exact absurd (by rw [← e]; simp) (fy y (.head _))
  | x :: z :: r, y :: u :: q, fx, fy, _, _, e => by
    simp only [jn] at e
    obtain ⟨rfl, e'⟩ := cut_eq (fx x (.head _)) (fy y (.head _)) e
    rw [jn_inj (fun a h => fx a (.tail _ h)) (fun a h => fy a (.tail _ h)) (by simp) (by simp) e']
/- the slash -/
def Fr (x : Str) : Prop := 47 ∉ cl x
theorem sl_eq : Str.ofString "/" = ⟨#[47]⟩ := by decide +kernel
theorem free_map {xs : List Str} (h : ∀ x ∈ xs, Fr x) : Free 47 (xs.map cl) := fun a ha => by
  obtain ⟨x, hx, rfl⟩ := List.mem_map.mp ha; exact h x hx
theorem map_cl_inj : ∀ {xs ys : List Str}, xs.map cl = ys.map cl → xs = ys
  | [], [], _ => rfl
  | [], _ :: _, h => by simp at h
  | _ :: _, [], h => by simp at h
  | x :: xs, y :: ys, h => by simp only [List.map_cons, List.cons.injEq] at h; rw [cl_inj h.1, map_cl_inj h.2]
theorem join_inj {xs ys : List Str} (fx : ∀ x ∈ xs, Fr x) (fy : ∀ y ∈ ys, Fr y) (nx : xs ≠ []) (ny : ys ≠ []) (h : Str.join (Str.ofString "/") xs = Str.join (Str.ofString "/") ys) : xs = ys := by
  refine map_cl_inj (jn_inj (free_map fx) (free_map fy) (by simpa using nx) (by simpa using ny) ?_)
  rw [← cl_join, ← cl_join, ← sl_eq, h]
theorem split_join {xs : List Str} (fx : ∀ x ∈ xs, Fr x) (nx : xs ≠ []) : Txt.split (Str.join (Str.ofString "/") xs) (Str.ofString "/") = xs := by
  refine join_inj ?_ fx ?_ nx (StrLaws.join_split _ _)
  · intro y hy
    rw [sl_eq] at hy
    exact StrLaws.split_free _ 47 y hy
  · intro e
    have := PyProof.Rows.split_pos (Str.join (Str.ofString "/") xs) (Str.ofString "/")
    rw [e] at this; simp at this
def joinLen (xs : List Str) : Nat := (xs.map (·.length)).sum + xs.length
theorem join_len_le : ∀ (xs : List Str), (Str.join (Str.ofString "/") xs).length ≤ joinLen xs
  | [] => by simp [Str.join, joinLen, Str.length, Str.empty]
  | [x] => by simp [Str.join, joinLen]
  | x :: y :: r => by
    have ih := join_len_le (y :: r)
    have e : (Str.join (Str.ofString "/") (x :: y :: r)).length = x.length + 1 + (Str.join (Str.ofString "/") (y :: r)).length := by
      have : Str.join (Str.ofString "/") (x :: y :: r) = x ++ Str.ofString "/" ++ Str.join (Str.ofString "/") (y :: r) := rfl
      rw [this, cl_len, cl_append, cl_append, List.length_append, List.length_append, ← cl_len, ← cl_len, ← cl_len, sl_eq]
      rfl
    rw [e]
    simp [joinLen] at ih ⊢
    omega
theorem sl_len : (Str.ofString "/").length = 1 := by rw [sl_eq]; rfl
end Mine


end
noncomputable section
set_option autoImplicit false
namespace Mine
open PySem PySem.W PyProof.Rows PySem.Calls

/- constants of the text -/
def GStr (C : Cx) (x : String) (v : Str) : Prop := ∃ t, C.mg (Str.ofString x) = some (.str v t)
def GInt (C : Cx) (x : String) (v : Int) : Prop := ∃ t, C.mg (Str.ofString x) = some (.int v t)
section
variable {C : Cx} {p : Program} {sc : Scope} {k : Nat}
theorem HE.gstr (O : C.Ok) {x : String} {pos : Pos} {v : Str} (h : sc.names.lookup (Str.ofString x) = some .globalImplicit) (hg : GStr C x v) (hd : (Str.ofString x == ("__debug__" : Str)) = false) : HE C sc k (.Name (Str.ofString x) pos) (eVal (.str v)) := by
  obtain ⟨t, e⟩ := hg
  exact HE.glob O h e (fun _ => .str v t) hd
theorem HE.gint (O : C.Ok) {x : String} {pos : Pos} {v : Int} (h : sc.names.lookup (Str.ofString x) = some .globalImplicit) (hg : GInt C x v) (hd : (Str.ofString x == ("__debug__" : Str)) = false) : HE C sc k (.Name (Str.ofString x) pos) (eVal (.int v)) := by
  obtain ⟨t, e⟩ := hg
  exact HE.glob O h e (fun _ => .int v t) hd
theorem GStr.of {loose : List Str} {mean : ExcName → Option Value} (T : Top p loose mean C.mg C.mb C.hB) {x : String} {v : Str} (h : valOf p (Str.ofString x) = some (.str v)) : GStr C x v := by
  obtain ⟨w, h1, h2⟩ := T.const _ _ h
  cases h2 C.hB with
  | str _ t => exact ⟨t, h1⟩
theorem GInt.of {loose : List Str} {mean : ExcName → Option Value} (T : Top p loose mean C.mg C.mb C.hB) {x : String} {v : Int} (h : valOf p (Str.ofString x) = some (.int v)) : GInt C x v := by
  obtain ⟨w, h1, h2⟩ := T.const _ _ h
  cases h2 C.hB with
  | int _ t => exact ⟨t, h1⟩
/- text times int -/
def opMulS : O2
  | .str x, .int n, σ, Q => MulOk x n ∧ Q (.str (Txt.mul x n)) σ
  | _, _, _, _ => False
end
@[simp] theorem mulS_eq {σ : View} {Q : V → View → Prop} {x : Str} {n : Int} : opMulS (.str x) (.int n) σ Q = (MulOk x n ∧ Q (.str (Txt.mul x n)) σ) := rfl
end Mine


end
noncomputable section
set_option autoImplicit false
namespace Mine
open PySem PySem.W PyProof.Rows PySem.Calls

/- dicts with texts as keys -/
def vstored (kvs : List (Str × V)) (k : Str) (v : V) : List (Str × V) :=
  if kvs.any (fun kv => kv.1 = k) then kvs.map (fun kv => if kv.1 = k then (kv.1, v) else kv) else kvs ++ [(k, v)]
def vget (kvs : List (Str × V)) (k : Str) : Option V := (kvs.find? fun kv => kv.1 = k).map (·.2)
def vout (kvs : List (Str × V)) (k : Str) : List (Str × V) := kvs.filter fun kv => decide (kv.1 ≠ k)
section
variable {aS : Addr} {h : Heap}
theorem PRel.any : ∀ {a : List (Str × V)} {b : List (Str × Value)} (k : Str), PRel aS h a b → (a.any fun kv => kv.1 = k) = (b.any fun kv => kv.1 = k)
  | [], [], _, _ => rfl
  | (_, _) :: _, (_, _) :: _, k, ⟨e, _, r⟩ => by simp only [List.any_cons, e, PRel.any k r]
theorem PRel.append : ∀ {a a' : List (Str × V)} {b b' : List (Str × Value)}, PRel aS h a b → PRel aS h a' b' → PRel aS h (a ++ a') (b ++ b')
  | [], _, [], _, _, x => x
  | (_, _) :: _, _, (_, _) :: _, _, ⟨e, v, r⟩, x => ⟨e, v, PRel.append r x⟩
theorem PRel.mapSet {k : Str} {v : V} {w : Value} (hv : VRel aS h v w) : ∀ {a : List (Str × V)} {b : List (Str × Value)}, PRel aS h a b → PRel aS h (a.map fun kv => if kv.1 = k then (kv.1, v) else kv) (b.map fun kv => if kv.1 = k then (kv.1, w) else kv)
  | [], [], _ => trivial
  | (x, u) :: _, (y, z) :: _, ⟨e, q, r⟩ => by
    simp only [List.map_cons]
    by_cases c : x = k
    · rw [if_pos c, if_pos (e ▸ c)]; exact ⟨e, hv, PRel.mapSet hv r⟩
    · rw [if_neg c, if_neg (e ▸ c)]; exact ⟨e, q, PRel.mapSet hv r⟩
theorem PRel.stored {k : Str} {v : V} {w : Value} {a : List (Str × V)} {b : List (Str × Value)} (x : PRel aS h a b) (hv : VRel aS h v w) : PRel aS h (vstored a k v) (PySem.stored b k w) := by
  unfold vstored PySem.stored
  rw [x.any k]
  split
  · exact x.mapSet hv
  · exact x.append ⟨rfl, hv, trivial⟩
theorem PRel.find {k : Str} : ∀ {a : List (Str × V)} {b : List (Str × Value)}, PRel aS h a b → ∀ {v : V}, vget a k = some v → ∃ w, valueAt b k = some w ∧ VRel aS h v w
  | [], [], _, v, e => by simp [vget] at e
  | (x, u) :: _, (y, z) :: _, ⟨e, q, r⟩, v, hv => by
    unfold vget at hv
    unfold valueAt
    by_cases c : x = k
    · rw [List.find?_cons_of_pos (by simpa using c)] at hv
      rw [List.find?_cons_of_pos (by simpa using e ▸ c)]
      cases hv; exact ⟨z, rfl, q⟩
    · rw [List.find?_cons_of_neg (by simpa using c)] at hv
      rw [List.find?_cons_of_neg (by simpa using e ▸ c)]
      exact PRel.find r hv
theorem PRel.none {k : Str} : ∀ {a : List (Str × V)} {b : List (Str × Value)}, PRel aS h a b → (vget a k).isSome = (valueAt b k).isSome
  | [], [], _ => rfl
  | (x, u) :: _, (y, z) :: _, ⟨e, q, r⟩ => by
    unfold vget valueAt
    by_cases c : x = k
    · rw [List.find?_cons_of_pos (by simpa using c), List.find?_cons_of_pos (by simpa using e ▸ c)]; rfl
    · rw [List.find?_cons_of_neg (by simpa using c), List.find?_cons_of_neg (by simpa using e ▸ c)]
      exact PRel.none r
theorem PRel.without {k : Str} : ∀ {a : List (Str × V)} {b : List (Str × Value)}, PRel aS h a b → PRel aS h (vout a k) (PySem.without b k)
  | [], [], _ => trivial
  | (x, u) :: _, (y, z) :: _, ⟨e, q, r⟩ => by
    unfold vout PySem.without
    have ih := PRel.without (k := k) r
    unfold vout PySem.without at ih
    by_cases c : x = k
    · rw [List.filter_cons_of_neg (by simpa using c), List.filter_cons_of_neg (by simpa using e ▸ c)]; exact ih
    · rw [List.filter_cons_of_pos (by simpa using c), List.filter_cons_of_pos (by simpa using e ▸ c)]; exact ⟨e, q, ih⟩
end
section
variable {C : Cx} {p : Program} {sc : Scope} {k : Nat}
theorem key_is (x : Str) (t : Tok) : (strKind C.prog C.w).is x (.str x t) = true := by
  show Value.isStrOf x (.str x t) = true
  simp [Value.isStrOf]
/- {} -/
def newD (kvs : List (Str × V)) (σ : View) (Q : V → View → Prop) : Prop := ∀ a ep, σ a = Option.none → Q (.ref a) (upd σ a (.dict kvs ep))
def eDict0 : ET := fun _ σ Q => newD [] σ Q
theorem HE.dict0 {pos : Pos} : HE C sc k (.Dict [] [] pos) eDict0 := by
  refine ⟨?_⟩; intro env A s m σ Q P E en ao R F q hP
  have hn := size_none s.heap
  obtain ⟨ep, hat⟩ := (Heap.DictOf.new (knd := strKind C.prog C.w) s.heap).dictAt
  refine wpAny_Dict_empty (hP (.ref s.heap.objs.size) (.ref s.heap.objs.size) (upd σ s.heap.objs.size (.dict [] ep)) _ (.ref _) ?_ .addPush (q _ ep (R.freshNone hn)))
  have := R.add (tk := s.toks) (a := s.heap.objs.size) (o := .dict [] ep) push_old hn (h' := s.heap.push { cls := .type "dict", data := .dict #[] }) ⟨by simp, [], hat, trivial⟩
  exact this
/- d[k] = v -/
def setD : V → V → V → View → (View → Prop) → Prop
  | .ref a, .str k, v, σ, Q => ∃ kvs ep, σ a = some (.dict kvs ep) ∧ kvs.length < 16777216 ∧ ∀ ep', Q (upd σ a (.dict (vstored kvs k v) ep'))
  | _, _, _, _, _ => False
theorem dict_notT {h : Heap} {a : Addr} {kws : List (Str × Value)} {ep : Nat} (x : h.DictAt (strKind C.prog C.w) a kws ep) : ∀ o, h.get? a = some o → ¬ IsT o := by
  intro o ho
  obtain ⟨o', es, ho', hc, hd, _⟩ := x
  rw [ho] at ho'; cases ho'
  simp [IsT, hd]
theorem vstored_len (kvs : List (Str × V)) (x : Str) (v : V) : (vstored kvs x v).length ≤ kvs.length + 1 := by
  unfold vstored; split <;> simp
theorem ok_setD : OpSet C k setD := by
  intro A s σ o i v wo wi w Q P E ao R vo vi vv q hP
  unfold setD at q
  split at q
  · rename_i a x
    cases vo; cases vi
    obtain ⟨kvs, ep, hx, hz, q⟩ := q
    obtain ⟨_, kws, h1, h2⟩ := R.view _ _ hx
    have hl := h2.length
    refine wpAny_setItem_pairs (knd := strKind C.prog C.w) (key_is x _) h1.dictOf (fun h' hd' hs' => ?_) (by rw [sizeLine_eq, ← hl]; omega)
    obtain ⟨ep', hat⟩ := hd'.dictAt
    have kt : TupKeep s.heap h' := fun b o eb ht => hs'.extBut b o (by rintro rfl; exact dict_notT h1 o eb ht) eb
    have vl := vstored_len kvs x v
    exact hP (upd σ a (.dict (vstored kvs x v) ep')) _ (R.change (tk := s.toks + 1) hx hs' ⟨by omega, _, hat, (h2.stored vv).keep kt⟩) (.change hx hs') (q ep')
  · exact q.elim
/- list(d) -/
def spListD : Spec
  | [.ref a], σ, Q => match σ a with
    | some (.dict kvs _) => newL (kvs.map fun q => .str q.1) σ Q
    | some (.list xs) => newL xs σ Q
    | _ => False
  | _, _, _ => False
theorem items_rel {aS : Addr} {h : Heap} : ∀ (vs : List V) (ws : List Value), ws.length = vs.length → (∀ (j : Nat) (v : V) w, vs[j]? = some v → ws[j]? = some w → VRel aS h v w) → VRels aS h vs ws
  | [], [], _, _ => .nil
  | [], _ :: _, h, _ => by simp at h
  | _ :: _, [], h, _ => by simp at h
  | v :: vs, w :: ws, hl, hj => .cons (hj 0 v w rfl rfl) (items_rel vs ws (by simpa using hl) fun j v w e1 e2 => hj (j + 1) v w (by simpa using e1) (by simpa using e2))
theorem ok_listD (O : C.Ok) (hpl : C.held = Option.none) : OpN C k (fun ws => PySem.call (.type "list") ws) spListD := by
  intro A s σ vs ws Q P E ao R hv q hP
  unfold spListD at q
  split at q
  · rename_i a
    obtain ⟨wa, rfl, h1⟩ := hv.inv1
    cases h1
    split at q
    · rename_i kvs ep hx
      obtain ⟨hz, kws, h2, h3⟩ := R.view _ _ hx
      have hl := h3.length
      refine with_size (kdl_call (kdl_dict (knd := strKind C.prog C.w) (kvs := kws) (ep := ep) (O.noMods (R.apart a (by rw [hx]; simp)))) (ao.none hpl) h2 (kdl_size (by omega)) fun h' tk acc c hk hD hacc => ?_)
      intro hsz
      have hn := size_none s.heap
      have rel : VRels C.aS h' (kvs.map fun q => .str q.1) acc.toList := by
        refine items_rel _ _ (by simp [hacc.1, hl]) fun j v w e1 e2 => ?_
        rw [List.getElem?_map] at e1
        obtain ⟨⟨ky, u⟩, e3, rfl⟩ := Option.map_eq_some_iff.mp e1
        obtain ⟨k', x', e4, e5⟩ := hacc.2 j w (by rw [← Array.getElem?_toList]; exact e2)
        obtain ⟨w', e6, _⟩ := h3.get e3
        rw [e6] at e4; cases e4
        obtain ⟨t, rfl⟩ := Value.isStrOf_shape e5
        exact .str _ _
      refine hP (.ref s.heap.objs.size) _ (upd σ s.heap.objs.size (.list (kvs.map fun q => .str q.1))) _ (.ref _) (R.add (tk := tk) hk hn ⟨by simp; omega, acc.toList, ⟨c, by simpa using hD⟩, rel⟩) (.add hk hsz (Nat.le_refl _)) (q _ (R.freshNone hn))
    · rename_i xs hx
      obtain ⟨hz, us, ⟨n, h2⟩, h3⟩ := R.view _ _ hx
      have hl := h3.length
      refine with_size (call_list_seq a (.inl rfl) h2 rfl rfl (fun h' c' hk hD => ?_) (by rw [List.size_toArray, sizeLine_eq]; omega))
      intro hsz
      have hn := size_none s.heap
      exact hP (.ref s.heap.objs.size) _ (upd σ s.heap.objs.size (.list xs)) _ (.ref _) (R.add (tk := s.toks) hk hn ⟨hz, us, ⟨c', by simpa using hD⟩, h3.keep fun b o e _ => hk b o e⟩) (.add hk hsz (Nat.le_refl _)) (q _ (R.freshNone hn))
    · exact q.elim
  · exact q.elim
end
end Mine


end
noncomputable section
set_option autoImplicit false
namespace Mine
open PySem PySem.W PyProof.Rows PySem.Calls

section
variable {C : Cx} {p : Program} {sc : Scope} {k : Nat}
/- the methods -/
def tyDict : V → View → Prop
  | .ref a, σ => ∃ kvs ep, σ a = some (.dict kvs ep)
  | _, _ => False
theorem tyDict_ok : TyOk C "dict" tyDict := by
  intro o wo σ s R hv h
  cases hv <;> first | exact h.elim | skip
  obtain ⟨kvs, ep, hx⟩ := h
  obtain ⟨_, ws, h1, h2⟩ := R.view _ _ hx
  exact ⟨h1.dictOf.typeIs, h1.dictOf.mapOf.noDict⟩
theorem vout_len (kvs : List (Str × V)) (x : Str) : (vout kvs x).length ≤ kvs.length := List.length_filter_le _ _
def spPop : Spec
  | [.ref a, .str x], σ, Q => ∃ kvs ep v, σ a = some (.dict kvs ep) ∧ vget kvs x = some v ∧ ∀ ep', Q v (upd σ a (.dict (vout kvs x) ep'))
  | _, _, _ => False
theorem ok_pop : OpN C k (fun ws => PySem.call (.builtin "dict.pop") ws) spPop := by
  intro A s σ vs ws Q P E ao R hv q hP
  unfold spPop at q
  split at q
  · rename_i a x
    obtain ⟨wa, wb, rfl, h1, h2⟩ := hv.inv2
    cases h1; cases h2
    obtain ⟨kvs, ep, v, hx, hv, q⟩ := q
    obtain ⟨hz, kws, h1, h2⟩ := R.view _ _ hx
    obtain ⟨w, e1, e2⟩ := h2.find hv
    have hl := h2.length
    refine call_meetsIn F.slot_dict_pop h1.dictOf.typeIs F.entry_dict_pop (F.args_dict_pop_2 _ _) (meets_dict_pop_there (strKind C.prog C.w) a (key_is x _) [] (.inl rfl) rfl) ⟨kws, w, h1.dictOf, by rw [sizeLine_eq]; omega, e1, fun h' hd' hs' => ?_⟩
    obtain ⟨ep', hat⟩ := hd'.dictAt
    have kt : TupKeep s.heap h' := fun b o eb ht => hs'.extBut b o (by rintro rfl; exact dict_notT h1 o eb ht) eb
    have vl := vout_len kvs x
    exact hP v w (upd σ a (.dict (vout kvs x) ep')) _ (e2.keep kt) (R.change (tk := s.toks + 1) hx hs' ⟨by omega, _, hat, h2.without.keep kt⟩) (.change hx hs') (q ep')
  · exact q.elim
theorem HE.popD {o : Expr} {apos pos : Pos} {es : List Expr} {To : ET} {L : LT} (ho : HE C sc k o To) (hl : HL C sc k es L) (hp : plainArgs es = true)
    (hbase : ∀ env, attributeBase o (Str.ofString "pop") env (eval o env) = eval o env) (hline : (apos.endLine == pos.line) = true) (hfew : es.length < 30) : HE C sc k (.Call (.Attribute o (Str.ofString "pop") apos) es [] pos) (eMeth tyDict spPop To L) :=
  HE.meth tyDict_ok F.plainAttrs_dict F.slot_dict_pop F.type_dict_pop ok_pop ho hl hp hbase hline hfew
theorem HE.listC (G : Gl C p) (hpl : C.held = Option.none) {np pos : Pos} {es : List Expr} {L : LT} (hn : sc.names.lookup (Str.ofString "list") = some .globalImplicit) (hl : HL C sc k es L) (hp : plainArgs es = true) : HE C sc k (.Call (.Name (Str.ofString "list") np) es [] pos) (eCall spListD L) :=
  HE.btype G.ok (ok_listD G.ok hpl) hn (G.free _ (by decide)) (G.blt bb_list (by decide)) rfl hl hp
/- list(d.items()) -/
def eItems (T : ET) : ET := fun m σ Q => T m σ fun v σ₁ => ∃ a kvs ep, v = .ref a ∧ σ₁ a = some (.dict kvs ep) ∧ newL (kvs.map fun q => .tup [.str q.1, q.2]) σ₁ Q
end
end Mine


end
noncomputable section
set_option autoImplicit false
namespace Mine
open PySem PySem.W PyProof.Rows PySem.Calls
theorem compL_all {g : Tgt} {inv : View → Prop} {T : ET} {m : Loc} (P : View → Prop) (R : Nat → V → Prop) (hinv : ∀ σ, P σ → inv σ) :
    ∀ (items acc : List V) (n : Nat) (σ : View) (Q : List V → View → Prop), acc.length + items.length ≤ 1048576 →
    (∀ (i : Nat) v, items[i]? = some v → ∀ σ (Q' : V → View → Prop), P σ → (∀ y σ', P σ' → R (n + i) y → Q' y σ') → ∃ m', bindT g v m = some m' ∧ T m' σ Q') →
    P σ → (∀ ys σ', P σ' → ys.length = items.length → (∀ (i : Nat) y, ys[i]? = some y → R (n + i) y) → Q (acc ++ ys) σ') → compL g inv tT T m items acc σ Q
  | [], acc, n, σ, Q, hz, step, p, q => by
    simp only [compL]
    exact ⟨hinv σ p, by simpa using q [] σ p rfl (fun i y e => by simp at e)⟩
  | v :: r, acc, n, σ, Q, hz, step, p, q => by
    simp only [compL]
    simp at hz
    obtain ⟨m', h1, h2⟩ := step 0 v rfl σ (fun y σ₂ => acc.length < 1048576 ∧ compL g inv tT T m r (acc ++ [y]) σ₂ Q) p (fun y σ' p' hy => by
      refine ⟨by omega, compL_all P R hinv r (acc ++ [y]) (n + 1) σ' Q (by simp; omega) (fun i v e => ?_) p' fun ys σ'' p'' hl hR => ?_⟩
      · have := step (i + 1) v (by simpa using e)
        rw [show n + (i + 1) = n + 1 + i by omega] at this
        exact this
      · have := q (y :: ys) σ'' p'' (by simp [hl]) fun i z e => by
          cases i with
          | zero => simp at e; subst e; exact hy
          | succ i => rw [show n + (i + 1) = n + 1 + i by omega]; exact hR i z (by simpa using e)
        simpa using this)
    exact ⟨hinv σ p, m', h1, by simpa [tT] using h2⟩
section
variable {σ : View} {Q : V → View → Prop} {ns : List Int}
theorem add_list {a b : Addr} {xs ys : List V} (ha : σ a = some (.list xs)) (hb : σ b = some (.list ys)) (hz : xs.length + ys.length ≤ 16777216) (q : newL (xs ++ ys) σ Q) : opAdd (.ref a) (.ref b) σ Q := ⟨xs, ys, ha, hb, hz, q⟩
@[simp] theorem eDict0_eq {m : Loc} : eDict0 m σ Q = newD [] σ Q := rfl
@[simp] theorem eItems_eq {m : Loc} {T : ET} : eItems T m σ Q = T m σ fun v σ₁ => ∃ a kvs ep, v = .ref a ∧ σ₁ a = some (.dict kvs ep) ∧ newL (kvs.map fun q => .tup [.str q.1, q.2]) σ₁ Q := rfl
theorem set_dict {a : Addr} {kvs : List (Str × V)} {ep : Nat} {x : Str} {v : V} {R : View → Prop} (h : σ a = some (.dict kvs ep)) (hz : kvs.length < 16777216) (q : ∀ ep', R (upd σ a (.dict (vstored kvs x v) ep'))) : setD (.ref a) (.str x) v σ R := ⟨kvs, ep, h, hz, q⟩
theorem pop_dict {a : Addr} {kvs : List (Str × V)} {ep : Nat} {x : Str} {v : V} (h : σ a = some (.dict kvs ep)) (hv : vget kvs x = some v) (q : ∀ ep', Q v (upd σ a (.dict (vout kvs x) ep'))) : spPop [.ref a, .str x] σ Q := ⟨kvs, ep, v, h, hv, q⟩
theorem listc_dict {a : Addr} {kvs : List (Str × V)} {ep : Nat} (h : σ a = some (.dict kvs ep)) : spListD [.ref a] σ Q = newL (kvs.map fun q => .str q.1) σ Q := by unfold spListD; simp [h]
theorem tyDict_ref {a : Addr} {kvs : List (Str × V)} {ep : Nat} (h : σ a = some (.dict kvs ep)) : tyDict (.ref a) σ = True := by simp [tyDict, h]
theorem iter_dict {a : Addr} {kvs : List (Str × V)} {ep : Nat} (h : σ a = some (.dict kvs ep)) {R : List V → (View → Prop) → View → Prop} : iterOf ns (.ref a) σ R = R (kvs.map fun q => .str q.1) (fun σ => σ a = some (.dict kvs ep)) σ := by unfold iterOf; simp [h]
end
/- keys -/
theorem vget_isSome (kvs : List (Str × V)) (x : Str) : (vget kvs x).isSome = decide (x ∈ kvs.map (·.1)) := by
  unfold vget
  rw [Option.isSome_map, Bool.eq_iff_iff, List.find?_isSome]
  simp
theorem vget_mem {kvs : List (Str × V)} {x : Str} (h : x ∈ kvs.map (·.1)) : ∃ v, vget kvs x = some v ∧ (x, v) ∈ kvs := by
  have := vget_isSome kvs x
  rw [decide_eq_true h] at this
  obtain ⟨v, hv⟩ := Option.isSome_iff_exists.mp this
  refine ⟨v, hv, ?_⟩
  unfold vget at hv
  obtain ⟨⟨k', v'⟩, h1, h2⟩ := Option.map_eq_some_iff.mp hv
  have h3 := List.find?_some h1
  have h4 := List.mem_of_find?_eq_some h1
  simp at h3 h2
  subst h3; subst h2; exact h4
theorem vstored_mem {kvs : List (Str × V)} {k : Str} {v : V} {q : Str × V} (h : q ∈ vstored kvs k v) : q = (k, v) ∨ q ∈ kvs := by
  unfold vstored at h
  split at h
  · obtain ⟨r, hr, rfl⟩ := List.mem_map.mp h
    by_cases c : r.1 = k
    · rw [if_pos c, c]; exact .inl rfl
    · rw [if_neg c]; exact .inr hr
  · rcases List.mem_append.mp h with h | h
    · exact .inr h
    · simp at h; exact .inl h
theorem vstored_keys (kvs : List (Str × V)) (k : Str) (v : V) : ∀ x, x ∈ (vstored kvs k v).map (·.1) ↔ x = k ∨ x ∈ kvs.map (·.1) := by
  intro x
  unfold vstored
  split
  · rename_i h
    have e : (kvs.map fun kv => if kv.1 = k then (kv.1, v) else kv).map (·.1) = kvs.map (·.1) := by
      rw [List.map_map]; apply List.map_congr_left; intro q _; simp only [Function.comp]; split <;> rfl
    rw [e]
    have hk : k ∈ kvs.map (·.1) := by
      obtain ⟨q, hq, e⟩ := List.any_eq_true.mp h
      exact List.mem_map.mpr ⟨q, hq, by simpa using e⟩
    constructor
    · exact .inr
    · rintro (rfl | h)
      · exact hk
      · exact h
  · simp only [List.map_append, List.mem_append, List.map_cons, List.map_nil, List.mem_singleton]
    constructor
    · rintro (h | h)
      · exact .inr h
      · exact .inl h
    · rintro (h | h)
      · exact .inr h
      · exact .inl h
theorem vstored_nodup {kvs : List (Str × V)} {k : Str} {v : V} (h : (kvs.map (·.1)).Nodup) : ((vstored kvs k v).map (·.1)).Nodup := by
  unfold vstored
  split
  · have e : (kvs.map fun kv => if kv.1 = k then (kv.1, v) else kv).map (·.1) = kvs.map (·.1) := by
      rw [List.map_map]; apply List.map_congr_left; intro q _; simp only [Function.comp]; split <;> rfl
    rw [e]; exact h
  · rename_i hn
    rw [List.map_append, List.nodup_append]
    refine ⟨h, by simp, ?_⟩
    intro a ha b hb
    simp at hb
    subst hb
    rintro rfl
    obtain ⟨q, hq, e⟩ := List.mem_map.mp ha
    exact hn (List.any_eq_true.mpr ⟨q, hq, by simpa using e⟩)
theorem vout_nodup {kvs : List (Str × V)} {k : Str} (h : (kvs.map (·.1)).Nodup) : ((vout kvs k).map (·.1)).Nodup := h.sublist (List.filter_sublist.map _)
theorem vout_mem {kvs : List (Str × V)} {k : Str} {q : Str × V} (h : q ∈ vout kvs k) : q ∈ kvs := (List.mem_filter.mp h).1
end Mine


end
noncomputable section
set_option autoImplicit false
namespace Mine
open PySem AutoSeq1 MeetsSeq MeetsSeq2 MeetsSeq3 SeqRoads2

/-- == of two values in this world -/
def EqW (C : Cx) (A : Around) (s : Shared) (y x : Value) (b : Bool) : Prop :=
  ∀ (E : Value → Shared → Prop) (Q : Bool → Shared → Prop), Q b s → wpAny (model C.prog C.w) A (eqBool y x) Q E s
/-- rows of values, item by item -/
def EqWs (C : Cx) (A : Around) (s : Shared) : List Value → List Value → Bool → Prop
  | [], [], b => b = true
  | [], _ :: _, b => b = false
  | _ :: _, [], b => b = false
  | x :: xs, y :: ys, b => ∃ e, EqW C A s x y e ∧ ((e = true ∧ EqWs C A s xs ys b) ∨ (e = false ∧ b = false))
def turnB (op : CmpOp) (b : Bool) : Bool := match op with | .Eq => b | _ => !b
/-- ==, != of two values in this world -/
def CmpW (C : Cx) (A : Around) (s : Shared) (y x : Value) (b : Bool) : Prop :=
  ∀ (op : CmpOp) (E : Value → Shared → Prop) (Q : Value → Shared → Prop), op = .Eq ∨ op = .NotEq → Q (.bool (turnB op b)) s → wpAny (model C.prog C.w) A (richCompare op y x) Q E s

section
variable {C : Cx} {A : Around} {s : Shared}
theorem EqW.of_refs {l b : Addr} {k : Bool} (hne : l ≠ b) (h : CmpW C A s (.ref l) (.ref b) k) : EqW C A s (.ref l) (.ref b) k := fun E Q hq => by
  unfold eqBool
  refine wpAny_holding ?_
  refine wpAny_ite_split (fun hab => absurd (by have := eq_of_beq hab; injection this) hne) (fun _ => ?_)
  exact wpAny_bind (h .Eq E _ (.inl rfl) (wpAny_truthy_bool hq))
theorem EqW.at {y x : Value} {b : Bool} (h : SeqAt.EqAt A s y x b) : EqW C A s y x b := fun E Q hq => h C.prog C.w E Q hq
end
end Mine


end
noncomputable section
set_option autoImplicit false
namespace Mine
open PySem AutoSeq1 MeetsSeq MeetsSeq2 MeetsSeq3 SeqRoads2

section
variable {C : Cx}
theorem EqWs.fin {A : Around} {s : Shared} {r : Bool} : ∀ {us vs : List Value}, [] = us.zip vs → EqWs C A s us vs r → r = decide (us.length = vs.length)
  | [], [], _, h => by cases (h : r = true); rfl
  | [], _ :: _, _, h => by cases (h : r = false); rfl
  | _ :: _, [], _, h => by cases (h : r = false); rfl
  | _ :: _, _ :: _, e, _ => by simp at e

theorem tup_eqW {A : Around} {s : Shared} {R : Result → Shared → Prop} (l b : Addr) (xs ys : List Value) (n n2 : Nat) (dd dd2 : Option Addr) (sl sl2 : Array (Option Value)) {r : Bool}
    (hl : s.heap.get? l = some { cls := .type "tuple", dict := dd, data := .seq xs.toArray n, slots := sl }) (hb : s.heap.get? b = some { cls := .type "tuple", dict := dd2, data := .seq ys.toArray n2, slots := sl2 })
    (he : EqWs C A.in1 s xs ys r) (h : R (.ok (.ret (.bool r))) s) :
    wpAny (model C.prog C.w) A.in1 (Builtin.«tuple.__eq__» ⟨[.ref l, .ref b], []⟩) (fun fin s' => match fin with | .done f => R (.ok f) s' | .again c' => c'.quiet = true ∧ codeAny (model C.prog C.w) A c' R s') (fun e s' => R (.error e) s') s := by
  obtain ⟨hp, g, d, tk, os⟩ := s
  have f2 := AutoSeq1.sub_tuple_tuple
  wp_walk using wpAny_loadPart' hl, wpAny_loadPart' hb, wpAny_forIn_list _ (fun rest b s' => b.1 = none ∧ s' = ⟨hp, g, d, tk, os⟩ ∧ ∃ us vs, rest = us.zip vs ∧ EqWs C A.in1 ⟨hp, g, d, tk, os⟩ us vs r ∧ (xs.length = ys.length ↔ us.length = vs.length)) _
  case turn =>
    rintro ⟨x, y⟩ rest b s' ⟨hb', rfl, us, vs, hz, hr, hlen⟩
    match us, vs, hz, hr with
    | [], _, hz, _ => simp at hz
    | _ :: _, [], hz, _ => simp at hz
    | u :: us, v :: vs, hz, ⟨e, h1, h2⟩ =>
      simp only [List.zip_cons_cons, List.cons.injEq, Prod.mk.injEq] at hz
      obtain ⟨⟨rfl, rfl⟩, rfl⟩ := hz
      dsimp only
      refine wpAny_bind (h1 _ _ ?_)
      rcases h2 with ⟨rfl, h2⟩ | ⟨rfl, h2⟩
      · simp only [Bool.not_true, Bool.false_eq_true, if_false]
        exact wpAny_pure ⟨rfl, rfl, us, vs, rfl, h2, by simpa using hlen⟩
      · subst h2
        simp only [Bool.not_false, if_true]
        refine wpAny_bind (wpAny_pure (wpAny_pure ?_))
        exact wpAny_pure h
  case fin =>
    rintro ⟨b1, b2⟩ s' ⟨hb', rfl, us, vs, hz, hr, hlen⟩
    simp only at hb'
    subst hb'
    have e := EqWs.fin hz hr
    dsimp only
    refine wpAny_pure ?_
    have e2 : Builtin.Tuple.tupleCompareSizes CmpOp.Eq xs.toArray.size ys.toArray.size = .bool r := by
      show Value.bool (xs.toArray.size == ys.toArray.size) = _
      rw [e, List.size_toArray, List.size_toArray]
      by_cases hq : xs.length = ys.length
      · simp [hq, hlen.mp hq]
      · have : ¬ us.length = vs.length := fun z => hq (hlen.mpr z)
        simp [hq, this]
    rw [e2]
    exact h
  case h => exact ⟨rfl, rfl, xs, ys, by simp, he, Iff.rfl⟩

theorem loop_eqW (l b : Addr) (xs ys : List Value) (n n2 : Nat) (dd dd2 : Option Addr) (sl sl2 : Array (Option Value)) (hsz : xs.length = ys.length) : ∀ (us vs : List Value) (i : Nat) {A : Around} {s : Shared} {R : Result → Shared → Prop} {r : Bool},
    us = xs.drop i → vs = ys.drop i → i ≤ xs.length →
    s.heap.get? l = some { cls := .type "list", dict := dd, data := .seq xs.toArray n, slots := sl } → s.heap.get? b = some { cls := .type "list", dict := dd2, data := .seq ys.toArray n2, slots := sl2 } →
    EqWs C A.in1 s us vs r → R (.ok (.ret (.bool r))) s →
    wpAny (model C.prog C.w) A.in1 (Builtin.«list.__eq__.loop» ⟨[.ref l, .ref b, rawInt i, rawInt 2], []⟩) (fun fin s' => match fin with | .done f => R (.ok f) s' | .again c' => c'.quiet = true ∧ codeAny (model C.prog C.w) A c' R s') (fun e s' => R (.error e) s') s := by
  intro us
  induction us with
  | nil =>
    intro vs i A s R r e1 e2 hi hl hb he h
    obtain ⟨hp, g, d, tk, os⟩ := s
    have hil : i = xs.length := by have := congrArg List.length e1; simp at this; omega
    have hv : vs = [] := by rw [e2]; exact List.drop_of_length_le (by omega)
    subst hv
    cases (he : r = true)
    wp_walk using wpAny_loadPart' hl, wpAny_loadPart' hb
    have hi1 : xs.toArray[((i : Nat) : Int).toNat]? = none := by simp; omega
    have hi2 : ys.toArray[((i : Nat) : Int).toNat]? = none := by simp; omega
    rw [hi1, hi2]
    wp_walk using wpAny_loadPart' hl, wpAny_loadPart' hb
    show R (.ok (.ret (.bool (xs.toArray.size == ys.toArray.size)))) _
    simpa [hsz] using h
  | cons u us ih =>
    intro vs i A s R r e1 e2 hi hl hb he h
    obtain ⟨hp, g, d, tk, os⟩ := s
    have hlt : i < xs.length := by have := congrArg List.length e1; simp at this; omega
    have hlt2 : i < ys.length := by omega
    rw [List.drop_eq_getElem_cons hlt] at e1
    rw [List.drop_eq_getElem_cons hlt2] at e2
    injection e1 with e1 e3
    subst e2
    obtain ⟨e, h1, h2⟩ := he
    have hi1 : xs.toArray[((i : Nat) : Int).toNat]? = some u := by simp [hlt, e1]
    have hi2 : ys.toArray[((i : Nat) : Int).toNat]? = some ys[i] := by simp [hlt2]
    have hc : ((i : Int) + 1) = ((i + 1 : Nat) : Int) := by push_cast; rfl
    wp_walk using wpAny_loadPart' hl, wpAny_loadPart' hb
    rw [hi1, hi2]
    refine wpAny_bind (h1 _ _ ?_)
    rcases h2 with ⟨rfl, h2⟩ | ⟨rfl, h2⟩
    · wp_walk
      rw [hc]
      exact ⟨plainId_quiet plain_eq_loop _, codeAny_builtin entry_eq_loop (by
        rw [Around.under_plainId plain_eq_loop _]
        exact ih (ys.drop (i + 1)) (i + 1) e3 rfl (by omega) hl hb h2 h)⟩
    · subst h2
      wp_walk using wpAny_loadPart' hl, wpAny_loadPart' hb
      rw [hi1, hi2]
      wp_walk
      simpa using h

theorem list_eqW {A : Around} {s : Shared} {R : Result → Shared → Prop} (l b : Addr) (xs ys : List Value) (n n2 : Nat) (dd dd2 : Option Addr) (sl sl2 : Array (Option Value)) {r : Bool}
    (hl : s.heap.get? l = some { cls := .type "list", dict := dd, data := .seq xs.toArray n, slots := sl }) (hb : s.heap.get? b = some { cls := .type "list", dict := dd2, data := .seq ys.toArray n2, slots := sl2 })
    (he : xs.length = ys.length → EqWs C A.in1 s xs ys r) (hne : xs.length ≠ ys.length → r = false) (h : R (.ok (.ret (.bool r))) s) :
    wpAny (model C.prog C.w) A.in1 (Builtin.«list.__eq__» ⟨[.ref l, .ref b], []⟩) (fun fin s' => match fin with | .done f => R (.ok f) s' | .again c' => c'.quiet = true ∧ codeAny (model C.prog C.w) A c' R s') (fun e s' => R (.error e) s') s := by
  obtain ⟨hp, g, d, tk, os⟩ := s
  have f3 := AutoSeq1.sub_list_list
  by_cases hsz : xs.length = ys.length
  · have hn' : ¬ (xs.toArray.size != ys.toArray.size) = true := by simp [hsz]
    wp_walk using wpAny_loadPart' hl, wpAny_loadPart' hb
    exact ⟨plainId_quiet plain_eq_loop _, codeAny_builtin entry_eq_loop (by
      rw [Around.under_plainId plain_eq_loop _]
      exact loop_eqW l b xs ys n n2 dd dd2 sl sl2 hsz xs ys 0 rfl rfl (Nat.zero_le _) hl hb (he hsz) h)⟩
  · have hc0 : (xs.toArray.size != ys.toArray.size) = true := by simpa using hsz
    cases hne hsz
    wp_walk using wpAny_loadPart' hl, wpAny_loadPart' hb
    exact h

theorem tup_neW {A : Around} {s : Shared} {R : Result → Shared → Prop} (l b : Addr) (xs ys : List Value) (n n2 : Nat) (dd dd2 : Option Addr) (sl sl2 : Array (Option Value)) {r : Bool}
    (hl : s.heap.get? l = some { cls := .type "tuple", dict := dd, data := .seq xs.toArray n, slots := sl }) (hb : s.heap.get? b = some { cls := .type "tuple", dict := dd2, data := .seq ys.toArray n2, slots := sl2 })
    (he : EqWs C A.in1 s xs ys r) (h : R (.ok (.ret (.bool (!r)))) s) :
    wpAny (model C.prog C.w) A.in1 (Builtin.«tuple.__ne__» ⟨[.ref l, .ref b], []⟩) (fun fin s' => match fin with | .done f => R (.ok f) s' | .again c' => c'.quiet = true ∧ codeAny (model C.prog C.w) A c' R s') (fun e s' => R (.error e) s') s := by
  obtain ⟨hp, g, d, tk, os⟩ := s
  have f2 := AutoSeq1.sub_tuple_tuple
  wp_walk using wpAny_loadPart' hl, wpAny_loadPart' hb, wpAny_forIn_list _ (fun rest b s' => b.1 = none ∧ s' = ⟨hp, g, d, tk, os⟩ ∧ ∃ us vs, rest = us.zip vs ∧ EqWs C A.in1 ⟨hp, g, d, tk, os⟩ us vs r ∧ (xs.length = ys.length ↔ us.length = vs.length)) _
  case turn =>
    rintro ⟨x, y⟩ rest b s' ⟨hb', rfl, us, vs, hz, hr, hlen⟩
    match us, vs, hz, hr with
    | [], _, hz, _ => simp at hz
    | _ :: _, [], hz, _ => simp at hz
    | u :: us, v :: vs, hz, ⟨e, h1, h2⟩ =>
      simp only [List.zip_cons_cons, List.cons.injEq, Prod.mk.injEq] at hz
      obtain ⟨⟨rfl, rfl⟩, rfl⟩ := hz
      dsimp only
      refine wpAny_bind (h1 _ _ ?_)
      rcases h2 with ⟨rfl, h2⟩ | ⟨rfl, h2⟩
      · simp only [Bool.not_true, Bool.false_eq_true, if_false]
        exact wpAny_pure ⟨rfl, rfl, us, vs, rfl, h2, by simpa using hlen⟩
      · subst h2
        simp only [Bool.not_false, if_true]
        refine wpAny_bind (wpAny_pure (wpAny_pure ?_))
        exact wpAny_pure h
  case fin =>
    rintro ⟨b1, b2⟩ s' ⟨hb', rfl, us, vs, hz, hr, hlen⟩
    simp only at hb'
    subst hb'
    have e := EqWs.fin hz hr
    dsimp only
    refine wpAny_pure ?_
    have e2 : Builtin.Tuple.tupleCompareSizes CmpOp.NotEq xs.toArray.size ys.toArray.size = .bool (!r) := by
      show Value.bool (xs.toArray.size != ys.toArray.size) = _
      rw [e, List.size_toArray, List.size_toArray]
      by_cases hq : xs.length = ys.length
      · simp [hq, hlen.mp hq]
      · have : ¬ us.length = vs.length := fun z => hq (hlen.mpr z)
        simp [hq, this]
    rw [e2]
    exact h
  case h => exact ⟨rfl, rfl, xs, ys, by simp, he, Iff.rfl⟩

theorem loop_neW (l b : Addr) (xs ys : List Value) (n n2 : Nat) (dd dd2 : Option Addr) (sl sl2 : Array (Option Value)) (hsz : xs.length = ys.length) : ∀ (us vs : List Value) (i : Nat) {A : Around} {s : Shared} {R : Result → Shared → Prop} {r : Bool},
    us = xs.drop i → vs = ys.drop i → i ≤ xs.length →
    s.heap.get? l = some { cls := .type "list", dict := dd, data := .seq xs.toArray n, slots := sl } → s.heap.get? b = some { cls := .type "list", dict := dd2, data := .seq ys.toArray n2, slots := sl2 } →
    EqWs C A.in1 s us vs r → R (.ok (.ret (.bool (!r)))) s →
    wpAny (model C.prog C.w) A.in1 (Builtin.«list.__eq__.loop» ⟨[.ref l, .ref b, rawInt i, rawInt 3], []⟩) (fun fin s' => match fin with | .done f => R (.ok f) s' | .again c' => c'.quiet = true ∧ codeAny (model C.prog C.w) A c' R s') (fun e s' => R (.error e) s') s := by
  intro us
  induction us with
  | nil =>
    intro vs i A s R r e1 e2 hi hl hb he h
    obtain ⟨hp, g, d, tk, os⟩ := s
    have hil : i = xs.length := by have := congrArg List.length e1; simp at this; omega
    have hv : vs = [] := by rw [e2]; exact List.drop_of_length_le (by omega)
    subst hv
    cases (he : r = true)
    wp_walk using wpAny_loadPart' hl, wpAny_loadPart' hb
    have hi1 : xs.toArray[((i : Nat) : Int).toNat]? = none := by simp; omega
    have hi2 : ys.toArray[((i : Nat) : Int).toNat]? = none := by simp; omega
    rw [hi1, hi2]
    wp_walk using wpAny_loadPart' hl, wpAny_loadPart' hb
    show R (.ok (.ret (.bool (xs.toArray.size != ys.toArray.size)))) _
    simpa [hsz] using h
  | cons u us ih =>
    intro vs i A s R r e1 e2 hi hl hb he h
    obtain ⟨hp, g, d, tk, os⟩ := s
    have hlt : i < xs.length := by have := congrArg List.length e1; simp at this; omega
    have hlt2 : i < ys.length := by omega
    rw [List.drop_eq_getElem_cons hlt] at e1
    rw [List.drop_eq_getElem_cons hlt2] at e2
    injection e1 with e1 e3
    subst e2
    obtain ⟨e, h1, h2⟩ := he
    have hi1 : xs.toArray[((i : Nat) : Int).toNat]? = some u := by simp [hlt, e1]
    have hi2 : ys.toArray[((i : Nat) : Int).toNat]? = some ys[i] := by simp [hlt2]
    have hc : ((i : Int) + 1) = ((i + 1 : Nat) : Int) := by push_cast; rfl
    wp_walk using wpAny_loadPart' hl, wpAny_loadPart' hb
    rw [hi1, hi2]
    refine wpAny_bind (h1 _ _ ?_)
    rcases h2 with ⟨rfl, h2⟩ | ⟨rfl, h2⟩
    · wp_walk
      rw [hc]
      exact ⟨plainId_quiet plain_eq_loop _, codeAny_builtin entry_eq_loop (by
        rw [Around.under_plainId plain_eq_loop _]
        exact ih (ys.drop (i + 1)) (i + 1) e3 rfl (by omega) hl hb h2 h)⟩
    · subst h2
      wp_walk using wpAny_loadPart' hl, wpAny_loadPart' hb
      rw [hi1, hi2]
      wp_walk
      simpa using h

theorem list_neW {A : Around} {s : Shared} {R : Result → Shared → Prop} (l b : Addr) (xs ys : List Value) (n n2 : Nat) (dd dd2 : Option Addr) (sl sl2 : Array (Option Value)) {r : Bool}
    (hl : s.heap.get? l = some { cls := .type "list", dict := dd, data := .seq xs.toArray n, slots := sl }) (hb : s.heap.get? b = some { cls := .type "list", dict := dd2, data := .seq ys.toArray n2, slots := sl2 })
    (he : xs.length = ys.length → EqWs C A.in1 s xs ys r) (hne : xs.length ≠ ys.length → r = false) (h : R (.ok (.ret (.bool (!r)))) s) :
    wpAny (model C.prog C.w) A.in1 (Builtin.«list.__ne__» ⟨[.ref l, .ref b], []⟩) (fun fin s' => match fin with | .done f => R (.ok f) s' | .again c' => c'.quiet = true ∧ codeAny (model C.prog C.w) A c' R s') (fun e s' => R (.error e) s') s := by
  obtain ⟨hp, g, d, tk, os⟩ := s
  have f3 := AutoSeq1.sub_list_list
  by_cases hsz : xs.length = ys.length
  · have hn' : ¬ (xs.toArray.size != ys.toArray.size) = true := by simp [hsz]
    wp_walk using wpAny_loadPart' hl, wpAny_loadPart' hb
    exact ⟨plainId_quiet plain_eq_loop _, codeAny_builtin entry_eq_loop (by
      rw [Around.under_plainId plain_eq_loop _]
      exact loop_neW l b xs ys n n2 dd dd2 sl sl2 hsz xs ys 0 rfl rfl (Nat.zero_le _) hl hb (he hsz) h)⟩
  · have hc0 : (xs.toArray.size != ys.toArray.size) = true := by simpa using hsz
    cases hne hsz
    wp_walk using wpAny_loadPart' hl, wpAny_loadPart' hb
    exact h
end
end Mine


end
noncomputable section
set_option autoImplicit false
set_option linter.unusedVariables false
namespace Mine
open PySem PySem.W PyProof.Rows PySem.Calls

/- equality, deep, with dicts -/
def rowq (f : V → V → Option Bool) : List V → List V → Option Bool
  | [], [] => some true
  | [], _ :: _ => some false
  | _ :: _, [] => some false
  | a :: as, b :: bs => match f a b with
    | some true => rowq f as bs
    | some false => some false
    | Option.none => Option.none
def dictq (k2 : List (Str × V)) : List (Str × V) → Option Bool
  | [] => some true
  | (k, v) :: r => match vget k2 k with
    | Option.none => some false
    | some y => match veq0 v y, dictq k2 r with
      | some e, some b => some (e && b)
      | _, _ => Option.none
def dq : Nat → View → V → V → Option Bool
  | 0, _, a, b => veq0 a b
  | n + 1, σ, .tup xs, .tup ys => rowq (dq n σ) xs ys
  | n + 1, σ, .ref a, .ref b => match σ a, σ b with
    | some (.list xs), some (.list ys) => if xs.length = ys.length then rowq (dq n σ) xs ys else some false
    | some (.dict k1 _), some (.dict k2 _) => if k1.length = k2.length then dictq k2 k1 else some false
    | _, _ => Option.none
  | _ + 1, _, a, b => veq0 a b

section
variable {C : Cx} {sc : Scope} {k : Nat}
theorem CmpW.tuples {A : Around} {s : Shared} {l b : Addr} {xs ys : List Value} {r : Bool} (hl : s.heap.IsTuple l xs.toArray) (hb : s.heap.IsTuple b ys.toArray) (hu : A.units < cLine) (he : EqWs C A.in1 s xs ys r) : CmpW C A s (.ref l) (.ref b) r := by
  obtain ⟨⟨cls, dd, data, sl⟩, ho, hc, n, hd⟩ := id hl
  obtain ⟨⟨cls2, dd2, data2, sl2⟩, ho2, hc2, n2, hd2⟩ := id hb
  simp only at hc hd hc2 hd2
  subst hc hd hc2 hd2
  intro op E Q hop h
  rcases hop with rfl | rfl
  · exact wpAny_richCompare_same_room (op := .Eq) ⟨_, ho, rfl⟩ ⟨_, ho2, rfl⟩ _root_.PySem.F.slot_tuple_eq (call_meetsIn _root_.PySem.F.slot_tuple_eq ⟨_, ho, rfl⟩ _root_.PySem.F.entry_tuple_eq (_root_.PySem.F.args_tuple_eq_2 _ _)
      (S := fun A' R s' => A' = A ∧ s' = s ∧ R (.ok (.ret (.bool r))) s) (fun A' R s' ⟨e1, e2, hR⟩ => by subst e1 e2; exact tup_eqW l b xs ys n n2 dd dd2 sl sl2 ho ho2 he hR) ⟨rfl, rfl, (fun x => nomatch x), h⟩) hu
  · exact wpAny_richCompare_same_room (op := .NotEq) ⟨_, ho, rfl⟩ ⟨_, ho2, rfl⟩ _root_.PySem.F.slot_tuple_ne (call_meetsIn _root_.PySem.F.slot_tuple_ne ⟨_, ho, rfl⟩ _root_.PySem.F.entry_tuple_ne (_root_.PySem.F.args_tuple_ne_2 _ _)
      (S := fun A' R s' => A' = A ∧ s' = s ∧ R (.ok (.ret (.bool (!r)))) s) (fun A' R s' ⟨e1, e2, hR⟩ => by subst e1 e2; exact tup_neW l b xs ys n n2 dd dd2 sl sl2 ho ho2 he hR) ⟨rfl, rfl, (fun x => nomatch x), h⟩) hu
theorem CmpW.lists {A : Around} {s : Shared} {l b : Addr} {xs ys : List Value} {r : Bool} (hl : s.heap.IsList l xs.toArray) (hb : s.heap.IsList b ys.toArray) (hu : A.units < cLine) (he : xs.length = ys.length → EqWs C A.in1 s xs ys r) (hne : xs.length ≠ ys.length → r = false) : CmpW C A s (.ref l) (.ref b) r := by
  obtain ⟨⟨cls, dd, data, sl⟩, ho, hc, n, hd⟩ := id hl
  obtain ⟨⟨cls2, dd2, data2, sl2⟩, ho2, hc2, n2, hd2⟩ := id hb
  simp only at hc hd hc2 hd2
  subst hc hd hc2 hd2
  intro op E Q hop h
  rcases hop with rfl | rfl
  · exact wpAny_richCompare_same_room (op := .Eq) ⟨_, ho, rfl⟩ ⟨_, ho2, rfl⟩ _root_.PySem.F.slot_list_eq (call_meetsIn _root_.PySem.F.slot_list_eq ⟨_, ho, rfl⟩ _root_.PySem.F.entry_list_eq (_root_.PySem.F.args_list_eq_2 _ _)
      (S := fun A' R s' => A' = A ∧ s' = s ∧ R (.ok (.ret (.bool r))) s) (fun A' R s' ⟨e1, e2, hR⟩ => by subst e1 e2; exact list_eqW l b xs ys n n2 dd dd2 sl sl2 ho ho2 he hne hR) ⟨rfl, rfl, (fun x => nomatch x), h⟩) hu
  · exact wpAny_richCompare_same_room (op := .NotEq) ⟨_, ho, rfl⟩ ⟨_, ho2, rfl⟩ _root_.PySem.F.slot_list_ne (call_meetsIn _root_.PySem.F.slot_list_ne ⟨_, ho, rfl⟩ _root_.PySem.F.entry_list_ne (_root_.PySem.F.args_list_ne_2 _ _)
      (S := fun A' R s' => A' = A ∧ s' = s ∧ R (.ok (.ret (.bool (!r)))) s) (fun A' R s' ⟨e1, e2, hR⟩ => by subst e1 e2; exact list_neW l b xs ys n n2 dd dd2 sl sl2 ho ho2 he hne hR) ⟨rfl, rfl, (fun x => nomatch x), h⟩) hu

theorem hits_of {A : Around} {s : Shared} {k2 : List (Str × V)} {w2 : List (Str × Value)} (h2 : PRel C.aS s.heap k2 w2) : ∀ {k1 : List (Str × V)} {w1 : List (Str × Value)} {r : Bool}, PRel C.aS s.heap k1 w1 → dictq k2 k1 = some r → KeqHits A s w2 w1 r
  | [], [], r, _, h => by cases h; exact .nil
  | (k, v) :: k1, (k', w) :: w1, r, ⟨e, hv, hr⟩, h => by
    subst e
    unfold dictq at h
    cases hg : vget k2 k with
    | none =>
      rw [hg] at h
      cases h
      have : (valueAt w2 k).isSome = false := by rw [← h2.none (k := k), hg]; rfl
      exact .miss (by cases e : valueAt w2 k with | none => rfl | some _ => rw [e] at this; cases this)
    | some y =>
      rw [hg] at h
      obtain ⟨wy, e1, e2⟩ := h2.find hg
      dsimp only at h
      split at h
      · rename_i e b h3 h4
        cases h
        exact .hit e1 (eqAt0 h3 hv e2) (hits_of h2 hr h4)
      · cases h

theorem row_self {f : V → V → Option Bool} {s : Shared} (hf : ∀ a b w r, f a b = some r → VRel C.aS s.heap a w → VRel C.aS s.heap b w → r = true) : ∀ {as bs : List V} {ws : List Value} {r : Bool}, rowq f as bs = some r → VRels C.aS s.heap as ws → VRels C.aS s.heap bs ws → r = true
  | [], [], _, r, h, _, _ => by cases h; rfl
  | a :: as, b :: bs, _ :: _, r, h, .cons va ra, .cons vb rb => by
    unfold rowq at h
    split at h
    · exact row_self hf h ra rb
    · rename_i h1
      have := hf _ _ _ _ h1 va vb
      cases this
    · cases h
  | [], _ :: _, _, _, h, .nil, hb => by cases hb
  | _ :: _, [], _, _, h, ha, .nil => by cases ha
theorem dict_self {k0 : List (Str × V)} (hn : (k0.map (·.1)).Nodup) : ∀ {k1 : List (Str × V)} {r : Bool}, (∀ q ∈ k1, q ∈ k0) → dictq k0 k1 = some r → r = true
  | [], r, _, h => by cases h; rfl
  | (k, v) :: k1, r, hm, h => by
    have hg : vget k0 k = some v := by
      have hq := hm _ (List.mem_cons_self ..)
      unfold vget
      rw [Option.map_eq_some_iff]
      refine ⟨(k, v), ?_, rfl⟩
      clear h hm
      induction k0 with
      | nil => cases hq
      | cons p k0 ih =>
        rw [List.map_cons, List.nodup_cons] at hn
        rcases List.mem_cons.mp hq with e | hq
        · rw [← e, List.find?_cons_of_pos (by simp)]
        · rw [List.find?_cons_of_neg]
          · exact ih hn.2 hq
          · intro z
            have z' : p.1 = k := by simpa using z
            exact hn.1 (by rw [z']; exact List.mem_map.mpr ⟨_, hq, rfl⟩)
    unfold dictq at h
    rw [hg] at h
    dsimp only at h
    split at h
    · rename_i e b h3 h4
      cases h
      have h5 := dict_self hn (fun q hq => hm q (List.mem_cons_of_mem _ hq)) h4
      have h6 : e = true := by
        cases v <;> simp [veq0] at h3 <;> exact h3
      rw [h5, h6]; rfl
    · cases h
theorem PRel.keys {aS : Addr} {h : Heap} : ∀ {a : List (Str × V)} {b : List (Str × Value)}, PRel aS h a b → a.map (·.1) = b.map (·.1)
  | [], [], _ => rfl
  | (_, _) :: _, (_, _) :: _, ⟨e, _, r⟩ => by rw [List.map_cons, List.map_cons, PRel.keys r, e]
theorem dict_nodup {σ : View} {s : Shared} (R : RelG C σ s) {a : Addr} {kvs : List (Str × V)} {ep : Nat} (h : σ a = some (.dict kvs ep)) : (kvs.map (·.1)).Nodup := by
  obtain ⟨_, kws, h1, h2⟩ := R.view _ _ h
  rw [h2.keys]
  exact let ⟨_, _, _, _, _, _, _, _, hn⟩ := h1.dictOf; hn
theorem dq_self {σ : View} {s : Shared} (R : RelG C σ s) : ∀ (n : Nat) (a b : V) (w : Value) (r : Bool), dq n σ a b = some r → VRel C.aS s.heap a w → VRel C.aS s.heap b w → r = true
  | 0, a, b, w, r, h, va, vb => veq0_self h va vb
  | n + 1, a, b, w, r, h, va, vb => by
    cases a <;> cases b <;> simp only [dq] at h <;> first | exact veq0_self h va vb | skip
    · rename_i p q
      cases va; cases vb
      split at h
      · rename_i xs ys hx hy
        rw [hx] at hy; cases hy
        obtain ⟨_, ws, h1, h2⟩ := R.view _ _ hx
        rw [if_pos rfl] at h
        exact row_self (dq_self R n) h h2 h2
      · rename_i k1 _ k2 _ hx hy
        rw [hx] at hy; cases hy
        rw [if_pos rfl] at h
        exact dict_self (dict_nodup R hx) (fun q hq => hq) h
      · cases h
    · rename_i xs ys
      cases va with | @tup _ p ws ht hvs => cases vb with | @tup _ _ us ht' hus =>
      obtain ⟨o, ho, _, n1, hd⟩ := ht
      obtain ⟨o', ho', _, n2, hd'⟩ := ht'
      rw [ho] at ho'; cases ho'
      rw [hd] at hd'
      injection hd' with e1 _
      have e2 : ws = us := by simpa using congrArg Array.toList e1
      subst e2
      exact row_self (dq_self R n) h hvs hus
theorem cmpW {σ : View} {s : Shared} (O : C.Ok) (R : RelG C σ s) : ∀ (n : Nat) {A : Around} {a b : V} {wa wb : Value} {r : Bool}, dq n σ a b = some r → VRel C.aS s.heap a wa → VRel C.aS s.heap b wb → A.units + n < cLine →
    (veq0 a b = some r) ∨ ∃ p q, wa = .ref p ∧ wb = .ref q ∧ CmpW C A s (.ref p) (.ref q) r
  | 0, A, a, b, wa, wb, r, h, va, vb, hu => .inl h
  | n + 1, A, a, b, wa, wb, r, h, va, vb, hu => by
    have elem : ∀ {xs ys : List V} {ws us : List Value} {r : Bool}, rowq (dq n σ) xs ys = some r → VRels C.aS s.heap xs ws → VRels C.aS s.heap ys us → EqWs C A.in1 s ws us r := by
      intro xs
      induction xs with
      | nil =>
        intro ys ws us r h hx hy
        cases hx
        cases hy with
        | nil => cases h; rfl
        | cons _ _ => cases h; rfl
      | cons x xs ih =>
        intro ys ws us r h hx hy
        cases hx with | cons vx rx =>
        cases hy with
        | nil => cases h; rfl
        | cons vy ry =>
          rename_i w0 ws0 y0 u0 ys0 us0
          have one : ∀ e, dq n σ x y0 = some e → EqW C A.in1 s w0 u0 e := fun e hj => by
            rcases cmpW O R n (A := A.in1) hj vx vy (by show A.units + 1 + n < _; omega) with z | ⟨p, q, e1, e2, hr⟩
            · exact EqW.at (eqAt0 z vx vy)
            · subst e1 e2
              by_cases hne : p = q
              · subst hne; rw [dq_self R n x y0 _ _ hj vx vy]; exact EqW.at (SeqAt.EqAt.same _)
              · exact EqW.of_refs hne hr
          unfold rowq at h
          split at h
          · rename_i h1
            exact ⟨true, one _ h1, .inl ⟨rfl, ih h rx ry⟩⟩
          · rename_i h1
            cases h
            exact ⟨false, one _ h1, .inr ⟨rfl, rfl⟩⟩
          · cases h
    cases a <;> cases b <;> simp only [dq] at h <;> first | exact .inl h | skip
    · rename_i p q
      cases va; cases vb
      split at h
      · rename_i xs ys hx hy
        obtain ⟨_, ws, h1, h2⟩ := R.view _ _ hx
        obtain ⟨_, us, h3, h4⟩ := R.view _ _ hy
        refine .inr ⟨p, q, rfl, rfl, CmpW.lists h1.isList h3.isList (by omega) (fun hl => ?_) fun hl => ?_⟩
        · rw [← h2.length, ← h4.length] at hl
          rw [if_pos hl] at h
          exact elem h h2 h4
        · rw [← h2.length, ← h4.length] at hl
          rw [if_neg hl] at h
          cases h; rfl
      · rename_i k1 _ k2 _ hx hy
        obtain ⟨_, w1, h1, h2⟩ := R.view _ _ hx
        obtain ⟨_, w2, h3, h4⟩ := R.view _ _ hy
        have n1 := O.noMods (R.apart p (by rw [hx]; simp))
        have n2 := O.noMods (R.apart q (by rw [hy]; simp))
        refine .inr ⟨p, q, rfl, rfl, fun op E Q hop hq => ?_⟩
        by_cases hl : k1.length = k2.length
        · rw [if_pos hl] at h
          have hh := hits_of (A := A.in1) h4 h2 h
          have e : (w1.length == w2.length && r) = r := by rw [← h2.length, ← h4.length]; simp [hl]
          rcases hop with rfl | rfl
          · exact keq_eq n1 n2 h1.dictOf h3.dictOf (by omega) (fun _ => hh) (by rw [e]; exact hq)
          · exact keq_ne n1 n2 h1.dictOf h3.dictOf (by omega) (fun _ => hh) (by rw [e]; exact hq)
        · rw [if_neg hl] at h
          cases h
          have hl' : ¬ w1.length = w2.length := by rw [← h2.length, ← h4.length]; exact hl
          have e : (w1.length == w2.length && true) = false := by simp [hl']
          rcases hop with rfl | rfl
          · exact keq_eq (r := true) n1 n2 h1.dictOf h3.dictOf (by omega) (fun z => absurd z hl') (by rw [e]; exact hq)
          · exact keq_ne (r := true) n1 n2 h1.dictOf h3.dictOf (by omega) (fun z => absurd z hl') (by rw [e]; exact hq)
      · cases h
    · rename_i xs ys
      cases va with | @tup _ p ws ht hvs => cases vb with | @tup _ q us ht' hus =>
      exact .inr ⟨p, q, rfl, rfl, CmpW.tuples ht ht' (by omega) (elem h hvs hus)⟩
/-- ==, != of anything, to the depth 4 -/
def opEqD : O2 := fun a b σ Q => ∃ r, dq 4 σ a b = some r ∧ Q (.bool r) σ
def opNe : O2 := fun a b σ Q => ∃ r, dq 4 σ a b = some r ∧ Q (.bool (!r)) σ
theorem ok_eqD (O : C.Ok) : Op2 C k (compareOp .Eq) opEqD := by
  intro A s σ a b wa wb Q P E ao R va vb ⟨r, hr, q⟩ hP
  rcases cmpW O R 4 (A := A) hr va vb (by have := ao.units; omega) with z | ⟨p, p', rfl, rfl, h⟩
  · exact ok_eq0 A s σ a b wa wb Q P E ao R va vb ⟨r, z, q⟩ hP
  · exact h .Eq E P (.inl rfl) (hP _ _ σ s (.bool r) R Step.refl q)
theorem ok_neD (O : C.Ok) : Op2 C k (compareOp .NotEq) opNe := by
  intro A s σ a b wa wb Q P E ao R va vb ⟨r, hr, q⟩ hP
  rcases cmpW O R 4 (A := A) hr va vb (by have := ao.units; omega) with z | ⟨p, p', rfl, rfl, h⟩
  · exact ok_ne0 A s σ a b wa wb Q P E ao R va vb ⟨r, z, q⟩ hP
  · exact h .NotEq E P (.inr rfl) (hP _ _ σ s (.bool (!r)) R Step.refl q)
end
end Mine


end
noncomputable section
set_option autoImplicit false
set_option linter.unusedVariables false
namespace Mine
open PySem PySem.W PyProof.Rows PySem.Calls

section
variable {C : Cx} {p : Program} {sc : Scope} {k : Nat}
/- dict(d) -/
def spDictC : Spec
  | [.ref a], σ, Q => ∃ kvs ep, σ a = some (.dict kvs ep) ∧ newD kvs σ Q
  | _, _, _ => False
theorem ok_dictC (O : C.Ok) : OpN C k (fun ws => PySem.call (.type "dict") ws) spDictC := by
  intro A s σ vs ws Q P E ao R hv q hP
  unfold spDictC at q
  split at q
  · rename_i a
    obtain ⟨wa, rfl, h1⟩ := hv.inv1
    cases h1
    obtain ⟨kvs, ep, hx, q⟩ := q
    obtain ⟨hz, kws, h1, h2⟩ := R.view _ _ hx
    have hl := h2.length
    refine with_size (kt_call_dict (knd := PySem.strKind C.prog C.w) (O.noMods (R.apart a (by rw [hx]; simp))) h1.dictOf (by rw [sizeLine_eq]; omega) fun h' hd' hs' => ?_)
    intro hsz
    obtain ⟨ep', hat⟩ := hd'.dictAt
    have hn := size_none s.heap
    have hk : ∀ b o, s.heap.get? b = some o → h'.get? b = some o := fun b o e => hs'.extBut b o (Nat.ne_of_lt (Heap.lt_size e)) (Heap.get?_push_of_some _ e)
    exact hP _ _ (upd σ s.heap.objs.size (.dict kvs ep')) _ (.ref _) (R.add (tk := s.toks) hk hn ⟨hz, kws, hat, h2.keep fun b o e _ => hk b o e⟩) (.add hk hsz (Nat.le_refl _)) (q _ ep' (R.freshNone hn))
  · exact q.elim
theorem HE.dictC (G : Gl C p) {np pos : Pos} {es : List Expr} {L : LT} (hn : sc.names.lookup (Str.ofString "dict") = some .globalImplicit) (hl : HL C sc k es L) (hp : plainArgs es = true) : HE C sc k (.Call (.Name (Str.ofString "dict") np) es [] pos) (eCall spDictC L) :=
  HE.btype G.ok (ok_dictC G.ok) hn (G.free _ (by decide)) (G.blt bb_dict (by decide)) rfl hl hp
/- d.get(k) -/
def spGet : Spec
  | [.ref a, .str x], σ, Q => ∃ kvs ep, σ a = some (.dict kvs ep) ∧ Q ((vget kvs x).getD .none) σ
  | _, _, _ => False
/- k not in d -/
def opNotInD : O2
  | .str x, .ref a, σ, Q => ∃ kvs ep, σ a = some (.dict kvs ep) ∧ Q (.bool (!(vget kvs x).isSome)) σ
  | _, _, _, _ => False
theorem ok_notInD (O : C.Ok) : Op2 C k (compareOp .NotIn) opNotInD := by
  intro A s σ a b wa wb Q P E ao R va vb q hP
  unfold opNotInD at q
  split at q
  · rename_i x a
    cases va; cases vb
    obtain ⟨kvs, ep, hx, q⟩ := q
    obtain ⟨_, kws, h1, h2⟩ := R.view _ _ hx
    refine wpAny_notIn_of (knd := PySem.strKind C.prog C.w) (key_is x _) (O.noMods (R.apart a (by rw [hx]; simp))) h1.dictOf.mapOf ?_
    rw [← h2.none]
    exact hP _ _ σ _ (.bool _) (R.tok _) Step.refl q
  · exact q.elim
/- is None, is True -/
def vNone : V → Bool
  | .none => true
  | _ => false
def opIs : O2
  | .bool a, .bool b, σ, Q => Q (.bool (a == b)) σ
  | v, .none, σ, Q => Q (.bool (vNone v)) σ
  | _, _, _, _ => False
def opIsNot : O2
  | .bool a, .bool b, σ, Q => Q (.bool (a != b)) σ
  | v, .none, σ, Q => Q (.bool (!vNone v)) σ
  | _, _, _, _ => False
theorem none_rel {h : Heap} {v : V} {w : Value} (hv : VRel C.aS h v w) : (w == Value.none) = vNone v := by
  cases hv <;> rfl
theorem ok_is : Op2 C k (compareOp .Is) opIs := by
  intro A s σ a b wa wb Q P E ao R va vb q hP
  unfold opIs at q
  split at q
  · cases va; cases vb
    exact is_bool (hP _ _ σ s (.bool _) R Step.refl q)
  · cases vb
    exact is_none_gen (by rw [none_rel va]; exact hP _ _ σ s (.bool _) R Step.refl q)
  · exact q.elim
/- a, b = v -/
def sSetT (g : Tgt) (T : ET) : ST := fun m σ Q => T m σ fun v σ' => ∃ m', bindT g v m = some m' ∧ Q .next m' σ'
end
section
variable {m : Loc} {σ : View} {Q : V → View → Prop} {R : Fl → Loc → View → Prop} {ns : List Int}
@[simp] theorem sSetT_eq {g : Tgt} {T : ET} : sSetT g T m σ R = T m σ fun v σ' => ∃ m', bindT g v m = some m' ∧ R .next m' σ' := rfl
theorem dictc_dict {a : Addr} {kvs : List (Str × V)} {ep : Nat} (h : σ a = some (.dict kvs ep)) (q : newD kvs σ Q) : spDictC [.ref a] σ Q := ⟨kvs, ep, h, q⟩
theorem notin_dict {a : Addr} {kvs : List (Str × V)} {ep : Nat} {x : Str} (h : σ a = some (.dict kvs ep)) (q : Q (.bool (!(vget kvs x).isSome)) σ) : opNotInD (.str x) (.ref a) σ Q := ⟨kvs, ep, h, q⟩
@[simp] theorem is_none {v : V} : opIs v .none σ Q = Q (.bool (vNone v)) σ := by cases v <;> rfl
@[simp] theorem isnot_none {v : V} : opIsNot v .none σ Q = Q (.bool (!vNone v)) σ := by cases v <;> rfl
@[simp] theorem is_bb {a b : Bool} : opIs (.bool a) (.bool b) σ Q = Q (.bool (a == b)) σ := rfl
@[simp] theorem isnot_bb {a b : Bool} : opIsNot (.bool a) (.bool b) σ Q = Q (.bool (a != b)) σ := rfl
/-- a value without addresses, to the depth n -/
def Flat0 : V → Prop
  | .none | .bool _ | .int _ | .str _ => True
  | _ => False
theorem veq0_flat {v : V} (h : Flat0 v) : veq0 v v = some true := by
  cases v <;> first | exact h.elim | simp [veq0]
theorem dictq_same {k0 : List (Str × V)} (hn : (k0.map (·.1)).Nodup) (hf : ∀ q ∈ k0, Flat0 q.2) : ∀ {k1 : List (Str × V)}, (∀ q ∈ k1, q ∈ k0) → dictq k0 k1 = some true
  | [], _ => rfl
  | (k, v) :: k1, hm => by
    have hg : ∃ y, vget k0 k = some y ∧ (k, y) ∈ k0 := vget_mem (List.mem_map.mpr ⟨_, hm _ (List.mem_cons_self ..), rfl⟩)
    obtain ⟨y, hy, hmem⟩ := hg
    have e : y = v := by
      have hq := hm _ (List.mem_cons_self ..)
      clear hy hm
      induction k0 with
      | nil => cases hq
      | cons p k0 ih =>
        rw [List.map_cons, List.nodup_cons] at hn
        rcases List.mem_cons.mp hq with e1 | hq
        · rcases List.mem_cons.mp hmem with e2 | hmem
          · rw [← e1] at e2; exact congrArg (·.2) e2
          · exact absurd (List.mem_map.mpr ⟨_, hmem, by rw [← e1]⟩) hn.1
        · rcases List.mem_cons.mp hmem with e2 | hmem
          · exact absurd (List.mem_map.mpr ⟨_, hq, by rw [← e2]⟩) hn.1
          · exact ih hn.2 (fun q hq => hf q (List.mem_cons_of_mem _ hq)) hmem hq
    subst e
    unfold dictq
    rw [hy]
    dsimp only
    rw [veq0_flat (hf _ hmem), dictq_same hn hf fun q hq => hm q (List.mem_cons_of_mem _ hq)]
    rfl
theorem dq_dict {n : Nat} {a b : Addr} {kvs : List (Str × V)} {e1 e2 : Nat} (ha : σ a = some (.dict kvs e1)) (hb : σ b = some (.dict kvs e2)) (hn : (kvs.map (·.1)).Nodup) (hf : ∀ q ∈ kvs, Flat0 q.2) : dq (n + 1) σ (.ref a) (.ref b) = some true := by
  simp only [dq, ha, hb, if_true]
  exact dictq_same hn hf fun q hq => hq
theorem eqD_true {a b : V} (h : dq 4 σ a b = some true) (q : Q (.bool true) σ) : opEqD a b σ Q := ⟨true, h, q⟩
theorem neD_false {a b : V} (h : dq 4 σ a b = some true) (q : Q (.bool false) σ) : opNe a b σ Q := ⟨true, h, q⟩
end
end Mine


end
noncomputable section
set_option autoImplicit false
namespace Mine
open PySem

/-- the frames ahead: function frames whose names lie in dicts of no view -/
def FrsOk (C : Cx) (σ : View) (h : Heap) (fs : List Env) : Prop := ∀ x ∈ fs, x.scope.kind ≠ .module ∧ ∃ L, x.frame = some L ∧ C.hB.get? L = none ∧ σ L = none ∧ ∃ o es ep, h.get? L = some o ∧ o.data = .dict es ep
structure FOk (C : Cx) (A : Around) (env : Env) (σ : View) (h : Heap) : Prop where
  frames : ∃ outer, A.frames = some (env :: outer) ∧ FrsOk C σ h outer ∧ ∀ x ∈ outer, ∀ L, x.frame = some L → ¬ Own env L
  frame : env.frame = some env.locals
/-- an exception under way in the frame at L; what is changed on its way lies from n on, and in no view -/
structure Fly (C : Cx) (c : String) (n : Nat) (σ : View) (h : Heap) (e : Addr) (ok : Option Value → Prop) : Prop where
  obj : ∃ oe vs Cl, h.get? e = some oe ∧ C.mg (Str.ofString c) = some (.ref Cl) ∧ oe.cls = .ref Cl ∧ oe.data = .fields vs ∧ vs[2]? = some .none ∧ 2 < vs.size ∧
    ((ok none ∧ vs[1]? = some .none) ∨ ∃ T oT ts fl, vs[1]? = some (.ref T) ∧ n ≤ T ∧ σ T = none ∧ T ≠ e ∧ h.get? T = some oT ∧ oT.data = .fields ts ∧ ts[3]? = some fl ∧ ok (some fl))
  new : n ≤ e
  sep : σ e = none
/-- what an exception's way changes -/
structure Moved (n : Nat) (σ : View) (S : List Addr) (h h' : Heap) : Prop where
  size : h.objs.size ≤ h'.objs.size
  keep : ∀ b o, h.get? b = some o → (b < n ∨ σ b ≠ none ∨ ∀ vs, o.data ≠ .fields vs) → b ∉ S → h'.get? b = some o
  slots : ∀ b o, h.get? b = some o → b ∈ S → ∃ sl, h'.get? b = some { o with slots := sl }
theorem Moved.trans {n : Nat} {σ : View} {S : List Addr} {h₁ h₂ h₃ : Heap} (x : Moved n σ S h₁ h₂) (y : Moved n σ S h₂ h₃) : Moved n σ S h₁ h₃ where
  size := Nat.le_trans x.size y.size
  keep := fun b o e z q => y.keep b o (x.keep b o e z q) z q
  slots := fun b o e q => by
    obtain ⟨sl, h1⟩ := x.slots b o e q
    obtain ⟨sl', h2⟩ := y.slots b _ h1 q
    exact ⟨sl', h2⟩
theorem Moved.refl {n : Nat} {σ : View} {S : List Addr} {h : Heap} : Moved n σ S h h := ⟨Nat.le_refl _, fun _ _ e _ _ => e, fun _ o e _ => ⟨o.slots, e⟩⟩
section
variable {C : Cx} {M : Model} {A : Around} {E : Value → Shared → Prop} {s : Shared} {env : Env} {σ : View} {m : Loc} {c : String} {n : Nat} {e : Addr} {ok : Option Value → Prop}
def frs (env : Env) (outer : List Env) : List Addr := (env :: outer).filterMap (·.frame)
theorem fun_frames {outer : List Env} (hf : env.frame = some env.locals) (hk : env.scope.kind = .function) (F : FrameRel C env m σ s.heap) (ho : FrsOk C σ s.heap outer) : s.heap.FunFrames C.hB (env :: outer) := by
  obtain ⟨mm, ⟨oL, es, ep, hoL, hdL, _⟩, _⟩ := F.ns
  refine ⟨by rw [hk]; decide, ⟨_, oL, hf, F.baseL, hoL, fun vs q => by rw [hdL] at q; cases q⟩, ?_⟩
  clear F hoL hdL
  induction outer with
  | nil => trivial
  | cons x r ih =>
    obtain ⟨h1, L, h2, h3, h4, o, es', ep', h5, h6⟩ := ho x (.head _)
    exact ⟨h1, ⟨L, o, h2, h3, h5, fun vs q => by rw [h6] at q; cases q⟩, ih fun y hy => ho y (.tail _ hy)⟩
/-- a new entry of the traceback -/
theorem newEntryX {outer : List Env} {oe : Obj} {vs : Array Value} {Cl : Addr} {head : Value} {had : Bool} {Q : Unit → Shared → Prop} (hfr : A.frames = some (env :: outer)) (hl : s.heap.FunFrames C.hB (env :: outer)) (hf : env.frame = some env.locals)
    (he : s.heap.get? e = some oe) (hmg : C.mg (Str.ofString c) = some (.ref Cl)) (hcls : oe.cls = .ref Cl) (hd : oe.data = .fields vs) (h2 : vs[2]? = some .none) (hn : n ≤ e) (hnz : n ≤ s.heap.objs.size) (hs : σ e = none) (hsT : σ s.heap.objs.size = none)
    (h : ∀ h', Fly C c n σ h' e (fun x => x = some (rawInt env.locals)) → Moved n σ (frs env outer) s.heap h' → Q () { s with heap := h' }) :
    wpAny M A (do let a ← frameOf env; let pl ← entryPlaceOf env.locals had; let b ← EntryCells.newEntry head a .none (rawInt env.locals) .none pl; setField (.ref e) 1 b) Q E s := by
  have hene : e ∉ frs env outer := fun hm => by
    obtain ⟨_, o, ho, hnf⟩ := hl.mem hm
    rw [he] at ho; cases ho; exact hnf vs hd
  have h1sz : 2 < vs.size := (Array.getElem?_eq_some_iff.mp h2).1
  refine wpAny_bind (wpAny_frameOf_fun hfr hl hf fun h₁ hs₁ => ?_)
  refine wpAny_bind (wpAny_entryPlaceOf fun pl hpl => ?_)
  unfold EntryCells.newEntry newFields
  refine wpAny_bind (wpAny_newObj_type ?_ (hpl.sizeOk5 _ _ _ _ _))
  generalize hot : ({ cls := .type "traceback", dict := none, data := .fields ([head, .ref env.locals, .none, rawInt env.locals, .none] ++ (if pl.isEmpty then List.replicate 6 Value.none else pl)).toArray } : Obj) = ot
  have hdt : ot.data = .fields ([head, .ref env.locals, .none, rawInt env.locals, .none] ++ (if pl.isEmpty then List.replicate 6 Value.none else pl)).toArray := by rw [← hot]
  have he₁ : h₁.get? e = some oe := (hs₁.2.1 e hene).trans he
  have he₂ := Heap.get?_push_of_some (h := h₁) ot he₁
  have hTe : h₁.objs.size ≠ e := Nat.ne_of_gt (Heap.lt_size he₁)
  have hd₃ := Obj.data_mapFields hd (·.setIfInBounds 1 (Value.ref h₁.objs.size))
  refine wpAny_setField he₂ hd (by omega) (h _ ?_ ?_)
  · have he₃ := Heap.get?_update_self (Obj.mapFields (·.setIfInBounds 1 (Value.ref h₁.objs.size))) he₂ (Obj.isFreed_of_fields hd₃)
    have hT₃ := (Heap.get?_update_other (h₁.push ot) (Obj.mapFields (·.setIfInBounds 1 (Value.ref h₁.objs.size))) (Ne.symm hTe)).trans (Heap.get?_push_size h₁ (by rw [← hot]; rfl))
    refine ⟨⟨_, _, Cl, he₃, hmg, (Obj.cls_mapFields _ _).trans hcls, hd₃, by rw [Array.getElem?_setIfInBounds_ne (by decide)]; exact h2, by rw [Array.size_setIfInBounds]; exact h1sz, .inr ⟨h₁.objs.size, ot, _, rawInt env.locals, by rw [Array.getElem?_setIfInBounds_self_of_lt (by omega)], by rw [hs₁.1]; exact hnz, by rw [hs₁.1]; exact hsT, hTe, hT₃, hdt, by rfl, rfl⟩⟩, hn, hs⟩
  · refine ⟨?_, fun b o hb hz hq => ?_, fun b o hb hq => ?_⟩
    · rw [Heap.size_after_update, Heap.size_push, hs₁.1]; exact Nat.le_succ _
    · have hbe : b ≠ e := by
        rintro rfl
        rw [he] at hb; cases hb
        rcases hz with z | z | z
        · exact absurd hn (Nat.not_le.mpr z)
        · exact z hs
        · exact z vs hd
      rw [Heap.get?_update_other _ _ (Ne.symm hbe)]
      exact Heap.get?_push_of_some _ ((hs₁.2.1 b hq).trans hb)
    · obtain ⟨sl, h3⟩ := hs₁.2.2 b o hb
      have hbe : b ≠ e := fun q => hene (q ▸ hq)
      exact ⟨sl, by rw [Heap.get?_update_other _ _ (Ne.symm hbe)]; exact Heap.get?_push_of_some _ h3⟩
/-- the traceback's head is written -/
theorem Fly.head {T : Addr} {oe oT : Obj} {vs ts : Array Value} {Cl : Addr} {h : Heap} {S : List Addr} (v : Value) (he : h.get? e = some oe) (hmg : C.mg (Str.ofString c) = some (.ref Cl)) (hcls : oe.cls = .ref Cl) (hd : oe.data = .fields vs) (h2 : vs[2]? = some .none) (h2s : 2 < vs.size)
    (h1 : vs[1]? = some (.ref T)) (hT : n ≤ T) (hσ : σ T = none) (hTe : T ≠ e) (hoT : h.get? T = some oT) (hdT : oT.data = .fields ts) (h3 : 3 < ts.size) (hn : n ≤ e) (hs : σ e = none) (hTS : T ∉ S) :
    Fly C c n σ (h.update T (Obj.mapFields (·.setIfInBounds 3 v))) e (fun x => x = some v) ∧ Moved n σ S h (h.update T (Obj.mapFields (·.setIfInBounds 3 v))) := by
  have other : ∀ b, b ≠ T → (h.update T (Obj.mapFields (·.setIfInBounds 3 v))).get? b = h.get? b := fun b hb => Heap.get?_update_other _ _ (Ne.symm hb)
  have hd₃ := Obj.data_mapFields hdT (·.setIfInBounds 3 v)
  have self := Heap.get?_update_self (Obj.mapFields (·.setIfInBounds 3 v)) hoT (Obj.isFreed_of_fields hd₃)
  refine ⟨⟨⟨oe, vs, Cl, (other e (Ne.symm hTe)).trans he, hmg, hcls, hd, h2, h2s, .inr ⟨T, _, _, v, h1, hT, hσ, hTe, self, hd₃, by rw [Array.getElem?_setIfInBounds_self_of_lt h3], rfl⟩⟩, hn, hs⟩, ?_⟩
  refine ⟨by rw [Heap.size_after_update]; exact Nat.le_refl _, fun b o hb hz hq => ?_, fun b o hb hq => ⟨o.slots, (other b (fun q => hTS (q ▸ hq))).trans hb⟩⟩
  refine (other b ?_).trans hb
  rintro rfl
  rw [hoT] at hb; cases hb
  rcases hz with z | z | z
  · exact absurd hT (Nat.not_le.mpr z)
  · exact z hσ
  · exact z ts hdT
theorem noteX {outer : List Env} {Q : Unit → Shared → Prop} (hfr : A.frames = some (env :: outer)) (hl : s.heap.FunFrames C.hB (env :: outer)) (hf : env.frame = some env.locals) (hnz : n ≤ s.heap.objs.size) (hsT : σ s.heap.objs.size = none)
    (X : Fly C c n σ s.heap e (fun x => x = none ∨ x = some .none ∨ x = some (rawInt env.locals)))
    (h : ∀ h', Fly C c n σ h' e (fun x => x = some (rawInt env.locals)) → Moved n σ (frs env outer) s.heap h' → Q () { s with heap := h' }) : wpAny M A (noteFrame (.ref e) env) Q E s := by
  obtain ⟨⟨oe, vs, Cl, he, hmg, hcls, hd, h2, h2s, hT⟩, hn, hs⟩ := X
  unfold noteFrame
  simp only [hf]
  rcases hT with ⟨_, h1⟩ | ⟨T, oT, ts, fl, h1, hT, hσ, hTe, hoT, hdT, h3, hok⟩
  · refine wpAny_bind (wpAny_field he hd h1 ?_)
    rw [if_neg (by decide)]
    exact newEntryX hfr hl hf he hmg hcls hd h2 hn hnz hs hsT h
  · refine wpAny_bind (wpAny_field he hd h1 ?_)
    rw [if_pos (show (Value.ref T != Value.none) = true from by simp)]
    refine wpAny_bind (wpAny_field hoT hdT h3 ?_)
    have h3s : 3 < ts.size := (Array.getElem?_eq_some_iff.mp h3).1
    have hTS : T ∉ frs env outer := fun hm => by
      obtain ⟨_, o, ho, hnf⟩ := hl.mem hm
      rw [hoT] at ho; cases ho; exact hnf ts hdT
    rcases hok with hok | hok | hok
    · cases hok
    · cases hok
      rw [if_neg (show ¬ ((Value.none == rawInt env.locals) = true) from by simp [rawInt])]
      refine wpAny_bind (wpAny_setField hoT hdT h3s ?_)
      obtain ⟨⟨⟨oe', vs', Cl', he', hmg', hcls', hd', h2', _, _⟩, _, _⟩, Mv⟩ := Fly.head (S := frs env outer) (c := c) .none he hmg hcls hd h2 h2s h1 hT hσ hTe hoT hdT h3s hn hs hTS
      refine newEntryX hfr (hl.of_keeps fun b o hb hnf => ⟨o, ?_, rfl⟩) hf he' hmg' hcls' hd' h2' hn (by rw [Heap.size_after_update]; exact hnz) hs (by rw [Heap.size_after_update]; exact hsT) fun h' F' M' => h h' F' (Mv.trans M')
      rw [Heap.get?_update_other _ _ (fun q => by rw [← q, hoT] at hb; cases hb; exact hnf ts hdT)]
      exact hb
    · cases hok
      rw [if_pos (show (rawInt env.locals == rawInt env.locals) = true from by simp)]
      exact wpAny_pure (h s.heap ⟨⟨oe, vs, Cl, he, hmg, hcls, hd, h2, h2s, .inr ⟨T, oT, ts, _, h1, hT, hσ, hTe, hoT, hdT, h3, rfl⟩⟩, hn, hs⟩ .refl)
theorem flightX {fr : Option Addr} {S : List Addr} {Q : Unit → Shared → Prop} (X : Fly C c n σ s.heap e (fun x => x ≠ none)) (hS : ∀ b o, s.heap.get? b = some o → b ∈ S → ∀ vs, o.data ≠ .fields vs)
    (h : ∀ h', Fly C c n σ h' e (fun x => x = some (fr.elim .none fun f => rawInt f)) → Moved n σ S s.heap h' → Q () { s with heap := h' }) : wpAny M A (setFlight (.ref e) fr) Q E s := by
  obtain ⟨⟨oe, vs, Cl, he, hmg, hcls, hd, h2, h2s, hT⟩, hn, hs⟩ := X
  rcases hT with ⟨h0, _⟩ | ⟨T, oT, ts, fl, h1, hT, hσ, hTe, hoT, hdT, h3, _⟩
  · exact absurd rfl h0
  have h3s : 3 < ts.size := (Array.getElem?_eq_some_iff.mp h3).1
  unfold setFlight
  refine wpAny_bind (wpAny_field he hd h1 ?_)
  rw [if_pos (show (Value.ref T != Value.none) = true from by simp)]
  obtain ⟨F', M'⟩ := Fly.head (S := S) (c := c) (fr.elim .none fun f => rawInt f) he hmg hcls hd h2 h2s h1 hT hσ hTe hoT hdT h3s hn hs fun hm => hS T oT hoT hm ts hdT
  exact wpAny_setField hoT hdT h3s (h _ F' M')
theorem Fly.mono {ok' : Option Value → Prop} {h : Heap} (X : Fly C c n σ h e ok) (k : ∀ x, ok x → ok' x) : Fly C c n σ h e ok' := by
  obtain ⟨⟨oe, vs, Cl, he, hmg, hcls, hd, h2, h2s, hT⟩, hn, hs⟩ := X
  refine ⟨⟨oe, vs, Cl, he, hmg, hcls, hd, h2, h2s, ?_⟩, hn, hs⟩
  rcases hT with ⟨h0, h1⟩ | ⟨T, oT, ts, fl, h1, hT, hσ, hTe, hoT, hdT, h3, hk⟩
  · exact .inl ⟨k _ h0, h1⟩
  · exact .inr ⟨T, oT, ts, fl, h1, hT, hσ, hTe, hoT, hdT, h3, k _ hk⟩
theorem Fly.less {n' : Nat} {h : Heap} (X : Fly C c n σ h e ok) (k : n' ≤ n) : Fly C c n' σ h e ok := by
  obtain ⟨⟨oe, vs, Cl, he, hmg, hcls, hd, h2, h2s, hT⟩, hn, hs⟩ := X
  refine ⟨⟨oe, vs, Cl, he, hmg, hcls, hd, h2, h2s, ?_⟩, Nat.le_trans k hn, hs⟩
  rcases hT with ⟨h0, h1⟩ | ⟨T, oT, ts, fl, h1, hT, hσ, hTe, hoT, hdT, h3, hk⟩
  · exact .inl ⟨h0, h1⟩
  · exact .inr ⟨T, oT, ts, fl, h1, Nat.le_trans k hT, hσ, hTe, hoT, hdT, h3, hk⟩
end
end Mine


end
noncomputable section
set_option autoImplicit false
set_option linter.unusedVariables false
namespace Mine
open PySem
section
variable {C : Cx} {env : Env} {m : Loc} {σ σ' : View} {n : Nat} {S : List Addr}
/-- the addresses of frames -/
def DS (h : Heap) (S : List Addr) : Prop := ∀ b ∈ S, ∀ o, h.get? b = some o → ∃ es ep, o.data = .dict es ep
theorem Moved.tups {h h' : Heap} (M : Moved n σ S h h') (d : DS h S) : TupKeep h h' := fun b o e ht => by
  obtain ⟨_, it, k, hd⟩ := ht
  refine M.keep b o e (.inr (.inr fun vs q => by rw [hd] at q; cases q)) fun hb => ?_
  obtain ⟨es, ep, q⟩ := d b hb o e
  rw [hd] at q; cases q
theorem RelG.moved {s : Shared} {h' : Heap} (R : RelG C σ s) (M : Moved n σ S s.heap h') (d : DS s.heap S) (hS : ∀ b ∈ S, C.hB.get? b = none ∧ σ b = none) (hn : ∀ b o, C.hB.get? b = some o → b < n) : RelG C σ { s with heap := h' } := by
  refine ⟨let ⟨_, tk, dr, e⟩ := R.rest; ⟨h', tk, dr, by rw [e]⟩, fun b o e => ?_, fun a o e => ?_, R.apart⟩
  · exact M.keep b o (R.base b o e) (.inl (hn b o e)) fun hb => by rw [(hS b hb).1] at e; cases e
  · refine (R.view a o e).keep (M.tups d) fun o' e' => M.keep a o' e' (.inr (.inl (by rw [e]; simp))) fun hb => by rw [(hS a hb).2] at e; cases e
theorem Moved.like {h h' : Heap} {b : Addr} {o : Obj} (M : Moved n σ S h h') (d : DS h S) (e : h.get? b = some o) (z : b < n ∨ σ b ≠ none ∨ ∀ vs, o.data ≠ .fields vs) : ∃ o', h'.get? b = some o' ∧ Like o o' := by
  by_cases hb : b ∈ S
  · obtain ⟨sl, h1⟩ := M.slots b o e hb
    exact ⟨_, h1, .inr ⟨d b hb o e, sl, rfl⟩⟩
  · exact ⟨o, M.keep b o e z hb, .refl o⟩
theorem FrameRel.moved {h h' : Heap} (F : FrameRel C env m σ h) (M : Moved n σ S h h') (d : DS h S) : FrameRel C env m σ h' := by
  have kt := M.tups d
  have kc : ∀ c v, h.IsCell c v → h'.IsCell c v := fun c v ⟨o, ho, hd⟩ => ⟨o, M.keep c o ho (.inr (.inr fun vs q => by rw [hd] at q; cases q)) (fun hb => by
    obtain ⟨es, ep, q⟩ := d c hb o ho
    rw [hd] at q; cases q), hd⟩
  obtain ⟨mm, hn, hv⟩ := F.ns
  refine ⟨⟨mm, Like.ns hn fun o e => M.like d e (.inr (.inr fun vs q => ?_)), fun x v e k => ?_⟩, fun x v e => ?_, fun n c e => ?_, F.sepL, F.baseL, F.baseC, F.dist, F.has⟩
  · obtain ⟨oL, es, ep, ho, hd, _⟩ := hn
    rw [ho] at e; cases e; rw [hd] at q; cases q
  · obtain ⟨w, h1, h2⟩ := hv x v e k; exact ⟨w, h1, h2.keep kt⟩
  · rcases F.cel x v e with q | ⟨q, c, w, h1, h2, h3⟩
    · exact .inl q
    · exact .inr ⟨q, c, w, h1, kc _ _ h2, h3.keep kt⟩
  · obtain ⟨v, hv⟩ := F.cells n c e; exact ⟨v, kc _ _ hv⟩
theorem Step.moved {own : Addr → Prop} {σ₀ : View} {h₀ h h' : Heap} (x : Step own σ₀ σ h₀ h) (M : Moved n σ S h h') (d : DS h S) (hn : h₀.objs.size ≤ n) : Step own σ₀ σ h₀ h' where
  keepL := fun b o e z q => by
    obtain ⟨o', h1, h2⟩ := x.keepL b o e z q
    obtain ⟨o'', h3, h4⟩ := M.like d h1 (.inl (Nat.lt_of_lt_of_le (Heap.lt_size e) hn))
    exact ⟨o'', h3, h2.trans h4⟩
  size := Nat.le_trans x.size M.size
  new := x.new
theorem Like.dict {o o' : Obj} (x : Like o o') {es : Array DictEntry} {ep : Nat} (h : o.data = .dict es ep) : o'.data = .dict es ep := by
  rcases x with rfl | ⟨_, sl, rfl⟩ <;> exact h
theorem FrsOk.step {own : Addr → Prop} {h h' : Heap} {fs : List Env} (x : FrsOk C σ h fs) (S : Step own σ σ' h h') (ho : ∀ y ∈ fs, ∀ L, y.frame = some L → ¬ own L) : FrsOk C σ' h' fs := fun y hy => by
  obtain ⟨h1, L, h2, h3, h4, o, es, ep, h5, h6⟩ := x y hy
  obtain ⟨o', h7, h8⟩ := S.keepL L o h5 h4 (ho y hy L h2)
  refine ⟨h1, L, h2, h3, ?_, o', es, ep, h7, h8.dict h6⟩
  cases z : σ' L with
  | none => rfl
  | some q => exact absurd (Heap.lt_size h5) (Nat.not_lt.mpr (S.new L h4 (by rw [z]; simp)))
theorem FOk.step {A : Around} {h h' : Heap} (x : FOk C A env σ h) (S : Step (Own env) σ σ' h h') : FOk C A env σ' h' := by
  obtain ⟨⟨outer, h1, h2, h3⟩, h4⟩ := x
  exact ⟨⟨outer, h1, h2.step S h3, h3⟩, h4⟩
/-- the frames as a list of addresses -/
theorem frs_ok {s : Shared} {outer : List Env} (F : FrameRel C env m σ s.heap) (hf : env.frame = some env.locals) (ho : FrsOk C σ s.heap outer) : DS s.heap (frs env outer) ∧ ∀ b ∈ frs env outer, C.hB.get? b = none ∧ σ b = none := by
  have key : ∀ b ∈ frs env outer, (C.hB.get? b = none ∧ σ b = none) ∧ ∃ o es ep, s.heap.get? b = some o ∧ o.data = .dict es ep := by
    intro b hb
    unfold frs at hb
    rw [List.filterMap_cons, hf] at hb
    rcases List.mem_cons.mp hb with rfl | hb
    · obtain ⟨mm, ⟨oL, es, ep, hoL, hdL, _⟩, _⟩ := F.ns
      exact ⟨⟨F.baseL, F.sepL⟩, oL, es, ep, hoL, hdL⟩
    · obtain ⟨y, hy, hyb⟩ := List.mem_filterMap.mp hb
      obtain ⟨_, L, h2, h3, h4, h5⟩ := ho y hy
      rw [h2] at hyb; cases hyb
      exact ⟨⟨h3, h4⟩, h5⟩
  refine ⟨fun b hb o e => ?_, fun b hb => (key b hb).1⟩
  obtain ⟨_, o', es, ep, h1, h2⟩ := key b hb
  rw [e] at h1; cases h1; exact ⟨es, ep, h2⟩
end
abbrev XT := String → Loc → View → Prop
abbrev STX := Loc → View → (Fl → Loc → View → Prop) → XT → Prop
def okIn (env : Env) : Option Value → Prop := fun x => x = none ∨ x = some .none ∨ x = some (rawInt env.locals)
abbrev AftX (C : Cx) (env : Env) (σ : View) (s : Shared) (X : XT) (E : Value → Shared → Prop) : Prop :=
  ∀ c e m' σ' s', Fly C c s.heap.objs.size σ' s'.heap e (okIn env) → RelG C σ' s' → FrameRel C env m' σ' s'.heap → Step (Own env) σ σ' s.heap s'.heap → X c m' σ' → E (.ref e) s'
structure HSX (C : Cx) (sc : Scope) (k : Nat) (b : List Stmt) (T : STX) : Prop where
  run : ∀ (env : Env) (A : Around) (s : Shared) (m : Loc) (σ : View) (Q : Fl → Loc → View → Prop) (X : XT) (P : Flow → Shared → Prop) (E : Value → Shared → Prop),
    EnvOk env sc → AOk C A k → RelG C σ s → FrameRel C env m σ s.heap → FOk C A env σ s.heap → T m σ Q X → AftS C env σ s Q P → AftX C env σ s X E → wpAny (model C.prog C.w) A (execs b env) P E s
structure HSX1 (C : Cx) (sc : Scope) (k : Nat) (b : Stmt) (T : STX) : Prop where
  run : ∀ (env : Env) (A : Around) (s : Shared) (m : Loc) (σ : View) (Q : Fl → Loc → View → Prop) (X : XT) (P : Flow → Shared → Prop) (E : Value → Shared → Prop),
    EnvOk env sc → AOk C A k → RelG C σ s → FrameRel C env m σ s.heap → FOk C A env σ s.heap → T m σ Q X → AftS C env σ s Q P → AftX C env σ s X E → wpAny (model C.prog C.w) A (exec b env) P E s
section
variable {C : Cx} {sc : Scope} {k : Nat}
def xP (T : ST) : STX := fun m σ Q _ => T m σ Q
theorem HSX1.plain {st : Stmt} {T : ST} (h : HS1 C sc k st T) : HSX1 C sc k st (xP T) := ⟨fun env A s m σ Q X P E en ao R F _ q hP _ => h.run env A s m σ Q P E en ao R F q hP⟩
theorem HSX.plain {b : List Stmt} {T : ST} (h : HS C sc k b T) : HSX C sc k b (xP T) := ⟨fun env A s m σ Q X P E en ao R F _ q hP _ => h.run env A s m σ Q P E en ao R F q hP⟩
def xSeq (T U : STX) : STX := fun m σ Q X => T m σ (fun f m₁ σ₁ => match f with
  | .next => U m₁ σ₁ Q X
  | f => Q f m₁ σ₁) X
theorem AftX.later {env : Env} {σ σ₁ : View} {s s₁ : Shared} {X : XT} {E : Value → Shared → Prop} (h : AftX C env σ s X E) (S : Step (Own env) σ σ₁ s.heap s₁.heap) : AftX C env σ₁ s₁ X E := fun c e m' σ' s' fl R F S' x => h c e m' σ' s' (fl.less S.size) R F (S.trans S') x
theorem HSX.cons {st : Stmt} {b : List Stmt} {T U : STX} (h1 : HSX1 C sc k st T) (h2 : HSX C sc k b U) : HSX C sc k (st :: b) (xSeq T U) := by
  refine ⟨?_⟩; intro env A s m σ Q X P E en ao R F W q hP hX
  refine wpAny_execs_cons (h1.run env A s m σ _ X _ E en ao R F W q (fun f g m₁ σ₁ s₁ hf R₁ F₁ S₁ q₁ => ?_) hX)
  cases hf with
  | next => exact h2.run env A s₁ m₁ σ₁ Q X P E en ao R₁ F₁ (W.step S₁) q₁ (fun f g m₂ σ₂ s₂ hf R₂ F₂ S₂ q₂ => hP f g m₂ σ₂ s₂ hf R₂ F₂ (S₁.trans S₂) q₂) (AftX.later hX S₁)
  | brk => exact hP _ _ m₁ σ₁ s₁ .brk R₁ F₁ S₁ q₁
  | cont => exact hP _ _ m₁ σ₁ s₁ .cont R₁ F₁ S₁ q₁
  | ret hv => exact hP _ _ m₁ σ₁ s₁ (.ret hv) R₁ F₁ S₁ q₁
def xIf (B : BT) (T U : STX) : STX := fun m σ Q X => B m σ fun b σ' => if b then T m σ' Q X else U m σ' Q X
theorem HSX1.ite {pos : Pos} {test : Expr} {a b : List Stmt} {B : BT} {T U : STX} (hb : HB C sc k test B) (h1 : HSX C sc k a T) (h2 : HSX C sc k b U) : HSX1 C sc k (.If test a b pos) (xIf B T U) := by
  refine ⟨?_⟩; intro env A s m σ Q X P E en ao R F W q hP hX
  refine wpAny_If (hb.run env A s m σ _ _ E en ao R F q fun b σ₁ s₁ R₁ S₁ q₁ => ?_)
  have S := S₁.own (env := env)
  have hP' : AftS C env σ₁ s₁ Q P := fun f g m₂ σ₂ s₂ hf R₂ F₂ S₂ q₂ => hP f g m₂ σ₂ s₂ hf R₂ F₂ (S.trans S₂) q₂
  cases b with
  | true => exact h1.run env A s₁ m σ₁ Q X P E en ao R₁ (F.step R S₁) (W.step S) q₁ hP' (AftX.later hX S)
  | false => exact h2.run env A s₁ m σ₁ Q X P E en ao R₁ (F.step R S₁) (W.step S) q₁ hP' (AftX.later hX S)
end
end Mine


end
noncomputable section
set_option autoImplicit false
set_option linter.unusedVariables false
namespace Mine
open PySem
/-- an exception under way in a frame, since the heap h₀ -/
structure Way (C : Cx) (A : Around) (env : Env) (c : String) (e : Addr) (σ₀ : View) (h₀ : Heap) (m : Loc) (σ : View) (s : Shared) (ok : Option Value → Prop) : Prop where
  fly : Fly C c h₀.objs.size σ s.heap e ok
  rel : RelG C σ s
  frame : FrameRel C env m σ s.heap
  step : Step (Own env) σ₀ σ h₀ s.heap
  fok : FOk C A env σ s.heap
section
variable {C : Cx} {sc : Scope} {k : Nat} {A A' : Around} {env : Env} {c : String} {e : Addr} {σ₀ σ : View} {h₀ : Heap} {m : Loc} {s : Shared} {ok : Option Value → Prop} {M : Model} {E : Value → Shared → Prop}
theorem Way.move {outer : List Env} {h' : Heap} {ok' : Option Value → Prop} (W : Way C A env c e σ₀ h₀ m σ s ok) (hb : ∀ b o, C.hB.get? b = some o → b < h₀.objs.size) (ho : A.frames = some (env :: outer)) (fl : Fly C c h₀.objs.size σ h' e ok') (Mv : Moved h₀.objs.size σ (frs env outer) s.heap h') : Way C A env c e σ₀ h₀ m σ { s with heap := h' } ok' := by
  obtain ⟨outer', h1, h2, h3⟩ := W.fok.frames
  rw [ho] at h1; cases h1
  obtain ⟨d, hS⟩ := frs_ok W.frame W.fok.frame h2
  refine ⟨fl, W.rel.moved Mv d hS hb, W.frame.moved Mv d, W.step.moved Mv d (Nat.le_refl _), ⟨⟨outer, ho, fun y hy => ?_, h3⟩, W.fok.frame⟩⟩
  obtain ⟨k1, L, k2, k3, k4, o, es, ep, k5, k6⟩ := h2 y hy
  obtain ⟨o', k7, k8⟩ := Mv.like d k5 (.inr (.inr fun vs q => by rw [k6] at q; cases q))
  exact ⟨k1, L, k2, k3, k4, o', es, ep, k7, k8.dict k6⟩
theorem Way.note {Q : Unit → Shared → Prop} (W : Way C A env c e σ₀ h₀ m σ s (okIn env)) (hk : env.scope.kind = .function) (hb : ∀ b o, C.hB.get? b = some o → b < h₀.objs.size) (hA : A'.frames = A.frames)
    (h : ∀ s', Way C A env c e σ₀ h₀ m σ s' (fun x => x = some (rawInt env.locals)) → Q () s') : wpAny M A' (noteFrame (.ref e) env) Q E s := by
  obtain ⟨outer, h1, h2, h3⟩ := W.fok.frames
  exact noteX (hA.trans h1) (fun_frames W.fok.frame hk W.frame h2) W.fok.frame W.step.size (W.rel.freshNone (size_none s.heap)) W.fly fun h' fl Mv => h _ (W.move hb h1 fl Mv)
theorem Way.flight {fr : Option Addr} {Q : Unit → Shared → Prop} (W : Way C A env c e σ₀ h₀ m σ s (fun x => x ≠ none)) (hk : env.scope.kind = .function) (hb : ∀ b o, C.hB.get? b = some o → b < h₀.objs.size)
    (h : ∀ s', Way C A env c e σ₀ h₀ m σ s' (fun x => x = some (fr.elim .none fun f => rawInt f)) → Q () s') : wpAny M A' (setFlight (.ref e) fr) Q E s := by
  obtain ⟨outer, h1, h2, h3⟩ := W.fok.frames
  refine flightX (S := frs env outer) W.fly (fun b o ho hm vs q => ?_) fun h' fl Mv => h _ (W.move hb h1 fl Mv)
  obtain ⟨es, ep, z⟩ := (frs_ok W.frame W.fok.frame h2).1 b hm o ho
  rw [q] at z; cases z
theorem Way.mono {ok' : Option Value → Prop} (W : Way C A env c e σ₀ h₀ m σ s ok) (k : ∀ x, ok x → ok' x) : Way C A env c e σ₀ h₀ m σ s ok' := ⟨W.fly.mono k, W.rel, W.frame, W.step, W.fok⟩
/-- out of a loop -/
theorem Way.back (W : Way C A env c e σ₀ h₀ m σ s (fun x => x = some (rawInt env.locals))) (hk : env.scope.kind = .function) (hb : ∀ b o, C.hB.get? b = some o → b < h₀.objs.size)
    (h : ∀ s', Way C A env c e σ₀ h₀ m σ s' (okIn env) → E (.ref e) s') : cameBackBy M A env E (.ref e) s := by
  unfold cameBackBy
  obtain ⟨oe, vs, Cl, he, hmg, hcls, hd, h2, h2s, hT⟩ := W.fly.obj
  rcases hT with ⟨h0, _⟩ | ⟨T, oT, ts, fl, h1, _⟩
  · cases h0
  refine wpAny_bind (wpAny_field he hd h1 ?_)
  rw [if_neg (show ¬ ((Value.ref T == Value.none) = true) from by simp)]
  exact (W.mono fun x hx => by rw [hx]; simp).flight hk hb fun s' W' => h s' (W'.mono fun x hx => by rw [hx, W.fok.frame]; exact .inr (.inr rfl))
def xforL (g : Tgt) (inv : View → Prop) (T : STX) : List V → STX
  | [] => fun m σ Q X => inv σ ∧ Q .next m σ
  | v :: r => fun m σ Q X => inv σ ∧ ∃ m', bindT g v m = some m' ∧ T m' σ (fun f m₁ σ₁ => match f with
    | .next => xforL g inv T r m₁ σ₁ Q X
    | .cont => xforL g inv T r m₁ σ₁ Q X
    | .brk => Q .next m₁ σ₁
    | .ret u => Q (.ret u) m₁ σ₁) X
def xFor (g : Tgt) (I : IT) (T : STX) : STX := fun m σ Q X => I m σ fun items inv σ' => xforL g inv T items m σ' Q X
theorem HSX1.for {target iter : Expr} {body : List Stmt} {pos : Pos} {g : Tgt} {I : IT} {T : STX} {loc : Bool} (ht : HT C sc k loc target g) (hi : HI C sc k iter I) (hb : HSX C sc k body T)
    (hf : ∀ env x, foldedSetIterable iter env x = pure x) : HSX1 C sc k (.For target iter body [] pos) (xFor g I T) := by
  refine ⟨?_⟩; intro env A s m σ Q X P E en ao R F W q hP hX
  have hbase : ∀ b o, C.hB.get? b = some o → b < s.heap.objs.size := fun b o e => Heap.lt_size (R.base b o e)
  rw [exec_For]
  refine wpAny_bind (wpAny_standAt ?_)
  have start : wpAny (model C.prog C.w) A (eval iter env) (fun x s₁ => wpAny (model C.prog C.w) A (pyIter x) (fun it s₂ => codeAny (model C.prog C.w) A (.forLoop target it body [] env) (fun r s' => match r with | .ok f => P f s' | .error e => cameBackBy (model C.prog C.w) A env E e s') s₂) E s₁) E s := by
    refine hi.run env A s m σ _ _ E en ao R F q fun items inv I St σ₀ s₀ hit st₀ hI hσ₀ R₀ S₀ q₀ => ?_
    have F₀ := F.step R S₀
    obtain ⟨mm, hn, _⟩ := F.ns
    have hIL : I ≠ env.locals := fun e => absurd hn.lt (Nat.not_lt.mpr (e ▸ hI))
    have hIb : C.hB.get? I = Option.none := R.baseNone (get_none_of_size hI)
    have back : ∀ {σ' : View} {h' : Heap}, Step (fun b => Own env b ∨ b = I) σ σ' s.heap h' → Step (Own env) σ σ' s.heap h' := fun S =>
      S.mono fun b o e z => z.elim id fun z => absurd (Heap.lt_size e) (Nat.not_lt.mpr (z ▸ hI))
    refine codeAny_forLoop_any
      (fun n s' => ∃ i m' σ' rest, items.drop i = rest ∧ i ≤ items.length ∧ n = rest.length + 1 ∧ St i s'.heap ∧ σ' I = Option.none ∧ RelG C σ' s' ∧ FrameRel C env m' σ' s'.heap ∧ Step (fun b => Own env b ∨ b = I) σ σ' s.heap s'.heap ∧ xforL g inv T rest m' σ' Q X) ?_ _
      ⟨0, m, σ₀, items, by simp, by simp, rfl, st₀, hσ₀, R₀, F₀, S₀.mono fun _ _ _ z => z.elim, q₀⟩
    rintro n s' ⟨i, m', σ', rest, e1, e2, rfl, st, hσ', R', F', S', q'⟩
    have drew : ∀ {h' : Heap}, Heap.ExtBut I s'.heap h' → s'.heap.objs.size ≤ h'.objs.size → Step (fun b => Own env b ∨ b = I) σ' σ' s'.heap h' := fun hx hsz =>
      .of (fun b o e _ q => hx b o (fun z => q (.inr z)) e) hsz fun _ a b => absurd a b
    cases rest with
    | nil =>
      have hil : i = items.length := by
        have := congrArg List.length e1
        simp at this; omega
      subst hil
      refine with_size (hit.done A σ' s' _ _ ao R' q'.1 st fun h' tk hx hsz => ?_)
      exact wpAny_execs_nil (hP .next .next m' σ' _ .next (draw_rel (tk := tk) R' hx hσ' hIb (hit.live _ _ st)) (draw_frame F' hx (hit.live _ _ st) hIL) (back (S'.trans (drew hx hsz))) q'.2)
    | cons v r =>
      obtain ⟨hinv, m₁, hm₁, q'⟩ := q'
      have hiv : items[i]? = some v := by
        have : (items.drop i)[0]? = some v := by rw [e1]; rfl
        simpa using this
      have hilt : i < items.length := by
        have := congrArg List.length e1
        simp at this; omega
      refine with_size (hit.next A σ' s' i v _ _ ao R' hinv st hiv fun w h₁ tk₁ hv st₁ hx hsz => ?_)
      have R₁ := draw_rel (tk := tk₁) R' hx hσ' hIb (hit.live _ _ st)
      have F₁ := draw_frame F' hx (hit.live _ _ st) hIL
      have S₁ := S'.trans (drew hx hsz)
      refine hit.own A _ (i + 1) target w _ _ st₁ ?_
      refine ht.run env A _ m' m₁ σ' v w _ _ en ao R₁ F₁ hv hm₁ fun s₂ R₂ F₂ S₂L => ?_
      have S₂ : Step (Own env) σ' σ' h₁ s₂.heap := S₂L.mono fun _ _ _ z => z.imp id fun z => z.2
      have S₂' : Step (fun b => Own env b ∨ b = I) σ' σ' h₁ s₂.heap := S₂.mono fun _ _ _ z => .inl z
      have st₂ : St (i + 1) s₂.heap := hit.frame _ _ _ st₁ (fun o e => S₂.keep I o e hσ' (fun z => by
        rcases z with z | ⟨n, z⟩
        · exact hIL z
        · obtain ⟨u, ou, hou, hdu⟩ := F₁.cells n I z
          obtain ⟨o', ho', _, hc'⟩ := hit.live _ _ st₁
          have : ou = o' := Option.some.inj (hou.symm.trans ho')
          exact hc' u (this ▸ hdu)) (hit.flds _ _ st₁ o e)) (S₂.tupsO F₁ R₁)
      have S02 := back (S₁.trans S₂')
      refine hb.run env A s₂ m₁ σ' _ X _ _ en ao R₂ F₂ (W.step S02) q' (fun f fl m₃ σ₃ s₃ hf R₃ F₃ S₃ q₃ => ?_) (fun c e m₃ σ₃ s₃ fl R₃ F₃ S₃ x => by
        have WW : Way C A env c e σ s.heap m₃ σ₃ s₃ (okIn env) := ⟨fl.less S02.size, R₃, F₃, S02.trans S₃, (W.step S02).step S₃⟩
        exact WW.note en.k hbase rfl fun s₄ W₄ => W₄.back en.k hbase fun s₅ W₅ => hX c e m₃ σ₃ s₅ W₅.fly W₅.rel W₅.frame W₅.step x)
      have S₃' : Step (fun b => Own env b ∨ b = I) σ' σ₃ s₂.heap s₃.heap := S₃.mono fun _ _ _ z => .inl z
      have SS := (S₁.trans S₂').trans S₃'
      have go : xforL g inv T r m₃ σ₃ Q X → ∃ k', k' < (v :: r).length + 1 ∧ ∃ i m' σ' rest, items.drop i = rest ∧ i ≤ items.length ∧ k' = rest.length + 1 ∧ St i s₃.heap ∧ σ' I = Option.none ∧ RelG C σ' s₃ ∧ FrameRel C env m' σ' s₃.heap ∧ Step (fun b => Own env b ∨ b = I) σ σ' s.heap s₃.heap ∧ xforL g inv T rest m' σ' Q X := fun q₃ => by
        refine ⟨r.length + 1, by simp, i + 1, m₃, σ₃, r, ?_, hilt, rfl, ?_, ?_, R₃, F₃, SS, q₃⟩
        · rw [← List.tail_drop, e1]; rfl
        · refine hit.frame _ _ _ st₂ (fun o e => S₃.keep I o e hσ' (fun z => ?_) (hit.flds _ _ st₂ o e)) (S₃.tupsO F₂ R₂)
          rcases z with z | ⟨n, z⟩
          · exact hIL z
          · obtain ⟨u, ou, hou, hdu⟩ := F₂.cells n I z
            obtain ⟨o', ho', _, hc'⟩ := hit.live _ _ st₂
            have : ou = o' := Option.some.inj (hou.symm.trans ho')
            exact hc' u (this ▸ hdu)
        · cases z : σ₃ I with
          | none => rfl
          | some o =>
            obtain ⟨o', ho', _⟩ := hit.live _ _ st₂
            exact absurd (Heap.lt_size ho') (Nat.not_lt.mpr (S₃.new I hσ' (by rw [z]; simp)))
      cases hf with
      | next => exact go q₃
      | cont => exact go q₃
      | brk => exact hP .next .next m₃ σ₃ s₃ .next R₃ F₃ (back SS) q₃
      | ret hv => exact hP _ _ m₃ σ₃ s₃ (.ret hv) R₃ F₃ (back SS) q₃
  refine wpAny_bind (wpAny_mono start (fun x s₁ h₁ => wpAny_bind (wpAny_of_eq (hf env x) (wpAny_bind (wpAny_standAt (wpAny_bind (wpAny_holding (wpAny_mono h₁ (fun it s₂ h₂ => wpAny_runOwn h₂) fun _ _ h' => h'))))))) fun _ _ h' => h')
end
end Mine


end
noncomputable section
set_option autoImplicit false
set_option linter.unusedVariables false
namespace Mine
open PySem PySem.W PyProof.Rows PySem.Calls
abbrev SpecX := List V → View → (V → View → Prop) → (String → View → Prop) → Prop
abbrev AftXc (C : Cx) (σ : View) (s : Shared) (X : String → View → Prop) (E : Value → Shared → Prop) : Prop :=
  ∀ c e σ' s', Fly C c s.heap.objs.size σ' s'.heap e (fun x => x = some .none) → RelG C σ' s' → Step no σ σ' s.heap s'.heap → X c σ' → E (.ref e) s'
/-- the function at f answers or raises by its contract -/
def FnSoundX (C : Cx) (j : Nat) (f : Addr) (spec : SpecX) : Prop :=
  ∀ (A : Around) (s : Shared) (σ : View) (vs : List V) (ws : List Value) (Q : V → View → Prop) (X : String → View → Prop) (P : Value → Shared → Prop) (E : Value → Shared → Prop),
    AOk C A (j + 1) → (∃ fs, A.frames = some fs ∧ FrsOk C σ s.heap fs) → RelG C σ s → VRels C.aS s.heap vs ws → spec vs σ Q X → Aft C σ s Q P → AftXc C σ s X E → codeAny (model C.prog C.w) A (.call (.ref f) ⟨ws, []⟩) (fun r s' => match r with | .ok (.ret v) => P v s' | .ok _ => False | .error e => E e s') s
section
variable {C : Cx}
theorem FnSoundX.mk (O : C.Ok) {f : Addr} {o : Obj} {fd : FuncData} {body : List Stmt} {xs : List String} {sc : Scope} {j : Nat} {spec : SpecX} {T : STX}
    (ho : C.hB.get? f = some o) (hd : o.data = .func fd) (hcd : C.hB.CodeRec fd.code fd.qualname) (hb : fd.body = .stmts body) (hsc : fd.scope = sc) (hcl : fd.closure = []) (hg : fd.globals = mainGlobals) (hbi : fd.builtins = builtinsNs)
    (hk : sc.kind = .function) (hfr : ∀ p ∈ sc.names, p.2 ≠ .free) (hco : sc.isCoroutine = false) (hgen : sc.isGenerator = false)
    (hbind : ∀ ws : List Value, ws.length = xs.length → bindArgs fd ⟨ws, []⟩ = pure ((xs.map Str.ofString).zip ws))
    (hloc : ∀ x ∈ xs, sc.names.lookup (Str.ofString x) = some .local ∨ sc.names.lookup (Str.ofString x) = some .cell)
    (hT : HSX C sc j body T)
    (hspec : ∀ vs σ Q X, spec vs σ Q X → vs.length = xs.length ∧ T (bindM xs vs none') σ (fun f _ σ' => match f with | .ret v => Q v σ' | .next => Q .none σ' | _ => False) (fun c _ σ' => X c σ')) : FnSoundX C j f spec := by
  intro A s σ vs ws Q X P E ao ⟨fs, hfs, hfo⟩ R hvs hs hP hX
  subst hsc
  obtain ⟨hlen, q⟩ := hspec vs σ Q X hs
  have hlw : ws.length = xs.length := by rw [← hvs.length]; exact hlen
  refine (codeAny_call_cells (fd := fd) (body := body) (binds := (xs.map Str.ofString).zip ws) (by have := ao.depth; omega) (R.base _ _ ho) hd (O.nolimit.keeps R.base) (hcd.keeps R.base) hb (hbind ws hlw) hcl ?_ ?_ hco hgen hk)
  · intro x hx
    have : x.1 ∈ xs.map Str.ofString := (List.of_mem_zip (a := x.1) (b := x.2) hx).1
    obtain ⟨y, hy, e⟩ := List.mem_map.mp this
    rw [← e]
    refine (hloc y hy).imp id fun z => ⟨z, ?_⟩
    obtain ⟨c, hc⟩ := cellsFrom_has (x := Str.ofString y) fd.scope.names (s.heap.objs.size + 1) [] (.inl z)
    rw [hc]; rfl
  · intro s₁ x
    generalize henv : callEnvC fd s.heap.objs.size f = env at x ⊢
    have eS : env.scope = fd.scope := by rw [← henv]; rfl
    have eL : env.locals = s.heap.objs.size := by rw [← henv]; rfl
    have eC : env.cells = cellsFrom (s.heap.objs.size + 1) fd.scope.names [] := by rw [← henv]; rfl
    have en : EnvOk env fd.scope := ⟨eS, hk, by rw [← henv]; exact hg, by rw [← henv]; exact hbi⟩
    obtain ⟨h₁, tk₁, e₁⟩ := x.toInCall.same
    have keep := x.toInCall.keep
    have R₁ : RelG C σ s₁ := by
      rw [e₁]
      exact R.grow (fun b o e => by have := keep b o e; rw [e₁] at this; exact this)
    have hz : s.heap.objs.size ≤ s₁.heap.objs.size := Nat.le_of_lt (by have := x.toInCall.ns.lt; rw [eL] at this; exact this)
    have kt : TupKeep s.heap s₁.heap := fun b o e _ => keep b o e
    have vars := bound_vars (C := C) (h := s₁.heap) env.kindOf xs vs ws none' (fun _ => Option.none) (fun _ => Option.none)
      (fun y hy => by unfold Env.kindOf; rw [eS]; exact hloc y hy) (hvs.keep kt) (fun _ _ e => by cases e)
    have lookupC : ∀ n, env.kindOf n = some .cell → ∃ c, env.cells.lookup n = some c := fun n hn => by
      rw [eC]; exact cellsFrom_has _ _ _ (.inl (by unfold Env.kindOf at hn; rw [eS] at hn; exact hn))
    have lookupF : ∀ n, env.kindOf n = some .cell ∨ env.kindOf n = some .free → ∃ c, env.cells.lookup n = some c := fun n hn => hn.elim (lookupC n) fun z => by
      unfold Env.kindOf at z; rw [eS] at z; exact absurd rfl (hfr _ (mem_of_lookup z))
    have fresh : ∀ c, s.heap.objs.size ≤ c → C.hB.get? c = Option.none := fun c hc => R.baseNone (get_none_of_size hc)
    have F₁ : FrameRel C env (bindM xs vs none') σ s₁.heap := by
      refine ⟨⟨_, x.toInCall.ns, fun y v e ky => ?_⟩, fun y v e => ?_, fun n c hc => ?_, R.freshNone (get_none_of_size (Nat.le_of_eq eL.symm)), fresh _ (Nat.le_of_eq eL.symm), fun n c hc => ?_, x.apart, lookupF⟩
      · rcases vars y v e with ⟨_, w, h1, h2⟩ | ⟨z, _⟩
        · exact ⟨w, h1, h2⟩
        · rw [z] at ky; cases ky
      · rcases vars y v e with ⟨z, _⟩ | ⟨z, w, h1, h2⟩
        · exact .inl z
        · obtain ⟨c, hc⟩ := lookupC _ z
          exact .inr ⟨.inl z, c, w, hc, h1 ▸ x.cell _ c hc, h2⟩
      · exact ⟨_, x.cell n c hc⟩
      · exact fresh c (Nat.le_of_lt (by have := x.above n c (mem_of_lookup hc); rw [eL] at this; exact this))
    have eF : env.frame = some env.locals := by rw [← henv]; rfl
    have hlt : ∀ y ∈ fs, ∀ L, y.frame = some L → L < s.heap.objs.size := fun y hy L hL => by
      obtain ⟨_, L', h2, _, _, o, _, _, h5, _⟩ := hfo y hy
      rw [hL] at h2; cases h2; exact Heap.lt_size h5
    have W₁ : FOk C (A.deeper env) env σ s₁.heap := by
      refine ⟨⟨fs, Around.frames_deeper hfs, fun y hy => ?_, fun y hy L hL z => ?_⟩, eF⟩
      · obtain ⟨h1, L, h2, h3, h4, o, es, ep, h5, h6⟩ := hfo y hy
        exact ⟨h1, L, h2, h3, h4, o, es, ep, keep _ _ h5, h6⟩
      · have := hlt y hy L hL
        rcases z with z | ⟨n', z⟩
        · rw [z, eL] at this; exact Nat.lt_irrefl _ this
        · have h9 := x.above n' L (mem_of_lookup z); rw [eL] at h9; exact Nat.lt_irrefl _ (Nat.lt_trans this h9)
    have toS : ∀ {σ' : View} {h' : Heap}, Step (Own env) σ σ' s₁.heap h' → Step no σ σ' s.heap h' := fun S' =>
      ⟨fun b o e n _ => S'.keepL b o (keep b o e) n (fun z => by
          have hlt := Heap.lt_size e
          rcases z with z | ⟨n', z⟩
          · rw [z, eL] at hlt; exact Nat.lt_irrefl _ hlt
          · have := x.above n' b (mem_of_lookup z); rw [eL] at this; exact Nat.lt_irrefl _ (Nat.lt_trans hlt this)),
        Nat.le_trans hz S'.size, fun b n m => Nat.le_trans hz (S'.new b n m)⟩
    refine hT.run env _ s₁ _ σ _ _ _ _ en ⟨by show A.handled = _; exact ao.handled, by show A.depth + 1 + 3 * j + 3 < _; have := ao.depth; omega, by show A.units + 3 + 10 * j + 20 < _; have := ao.units; omega⟩ R₁ F₁ W₁ q (fun fl g m' σ' s' hf R' F' S' q' => ?_) (fun c e m' σ' s' fl R' F' S' x' => ?_)
    rotate_left
    · have WW : Way C (A.deeper env) env c e σ s₁.heap m' σ' s' (okIn env) := ⟨fl, R', F', S', W₁.step S'⟩
      have hbase : ∀ b o, C.hB.get? b = some o → b < s₁.heap.objs.size := fun b o e => Heap.lt_size (R₁.base b o e)
      unfold leaving
      refine wpAny_bind (WW.note en.k hbase rfl fun s₂ W₂ => ?_)
      refine (W₂.mono fun x hx => by rw [hx]; simp).flight en.k hbase fun s₃ W₃ => ?_
      exact hX c e σ' s₃ (W₃.fly.less hz) W₃.rel (toS W₃.step) x'
    have S₀ := toS S'
    cases hf with
    | next => exact hP .none .none σ' s' .none R' S₀ q'
    | ret hv => exact hP _ _ σ' s' hv R' S₀ q'
    | brk => exact q'.elim
    | cont => exact q'.elim
end
end Mine


end
noncomputable section
set_option autoImplicit false
namespace Mine
open PySem
def Dead (b : Addr) (h : Heap) : Prop := h.get? b = none ∧ b < h.objs.size
theorem Dead.update {b a : Addr} {h : Heap} {f : Obj → Obj} {o : Obj} (x : Dead b h) (ha : h.get? a = some o) : Dead b (h.update a f) :=
  ⟨by rw [Heap.get?_update_other _ _ (by rintro rfl; rw [x.1] at ha; cases ha)]; exact x.1, by rw [Heap.size_after_update]; exact x.2⟩
theorem Dead.push {b : Addr} {h : Heap} {o : Obj} (x : Dead b h) : Dead b (h.push o) := by
  refine ⟨?_, by rw [Heap.size_push]; exact Nat.lt_succ_of_lt x.2⟩
  cases e : (h.push o).get? b with
  | none => rfl
  | some o' =>
    obtain ⟨h1, h2⟩ := Heap.get?_some_iff.mp e
    have h3 : h.objs[b]? = some o' := by
      have : (h.push o).objs[b]? = h.objs[b]? := by
        show (h.objs.push o)[b]? = _
        rw [Array.getElem?_push_lt x.2, Array.getElem?_eq_getElem x.2]
      rw [← this]; exact h1
    have := Heap.get?_some_iff.mpr ⟨h3, h2⟩
    rw [x.1] at this; cases this
theorem runs_dead {b : Addr} {M : Model} {Γ : Ctx} {p : Pos} {t : Sem Fin} {fs : List Frame} {s s' : Shared} {e : End} (h : PySem.Runs M Γ p t fs s e s') : Dead b s.heap → Dead b s'.heap := by
  induction h <;> intro d
  all_goals try simp only [Shared.setGen] at *
  all_goals first | exact d | (rename_i ih; exact ih d) | (rename_i ih; exact ih d.push) | (rename_i h1 _ ih; obtain ⟨o, ho⟩ := Option.isSome_iff_exists.mp h1; exact ih (d.update ho)) | (rename_i ih1 ih2; exact ih2 (ih1 d))
theorem wakes_dead {b : Addr} {M : Model} {Γ : Ctx} {p : Pos} {g : Nat} {r : Resume} {s s' : Shared} {res : GenResult} (h : Wakes M Γ p g r s res s') (d : Dead b s.heap) : Dead b s'.heap := by
  unfold Wakes at h
  split at h
  · exact h.elim
  · split at h
    · obtain ⟨e₁, s₁, hr, _, _, rfl⟩ := h; exact (runs_dead hr d : Dead b s₁.heap)
    · rw [h.2]; exact d
    · rw [h.2]; exact d
  · obtain ⟨e₁, s₁, hr, _, _, rfl⟩ := h; exact (runs_dead hr d : Dead b s₁.heap)
  · rw [h.2]; exact d
  · rw [h.2]; exact d
theorem wp_dead {α : Type} (M : Model) (Γ : Ctx) (D : Addr → Prop) (t : Sem α) : ∀ (Q : α → Pos → Shared → Prop) (E : Value → Pos → Shared → Prop) (p : Pos) (s : Shared), (∀ b, D b → Dead b s.heap) → Sem.wp M Γ t Q E p s →
    Sem.wp M Γ t (fun a p' s' => (∀ b, D b → Dead b s'.heap) ∧ Q a p' s') (fun e p' s' => (∀ b, D b → Dead b s'.heap) ∧ E e p' s') p s := by
  induction t with
  | pure a | raise a => intro Q E p s hn h; exact ⟨hn, h⟩
  | unsupported | finish | register | yield | fork | await => intro Q E p s _ h; exact h
  | rule _ k ih | «at» _ k ih | point _ k ih | ask k ih | handled _ k ih | stack k ih | thread k ih | loadIfAlive _ k ih | fresh k ih | os _ _ k ih | newGen _ k ih => intro Q E p s hn h; exact ih _ Q E _ _ hn h
  | load a _ k ih => intro Q E p s hn h; obtain ⟨o, ho, h⟩ := h; exact ⟨o, ho, ih o Q E p s hn h⟩
  | update a _ f k ih => intro Q E p s hn h; exact ⟨h.1, ih () Q E p _ (fun b hb => by obtain ⟨o, ho⟩ := Option.isSome_iff_exists.mp h.1; exact (hn b hb).update ho) h.2⟩
  | alloc o k ih => intro Q E p s hn h; exact ih _ Q E p _ (fun b hb => (hn b hb).push) h
  | choose src m k ih => intro Q E p s hn h; exact ⟨h.1, ih _ Q E p _ hn h.2⟩
  | call c hd _ _ k ih => intro Q E p s hn h; obtain ⟨r, s', hr, h⟩ := h; exact ⟨r, s', hr, ih r Q E p s' (fun b hb => runs_dead hr (hn b hb)) h⟩
  | genState g k ih => intro Q E p s hn h; obtain ⟨st, hs, h⟩ := h; exact ⟨st, hs, ih _ Q E p s hn h⟩
  | resume g r _ k ih => intro Q E p s hn h; obtain ⟨res, s', hw, h⟩ := h; exact ⟨res, s', hw, ih res Q E p s' (fun b hb => wakes_dead hw (hn b hb)) h⟩
/-- what was dead below the size stays so -/
theorem with_dead {α : Type} {M : Model} {A : Around} {s : Shared} {t : Sem α} {Q : α → Shared → Prop} {E : Value → Shared → Prop}
    (h : wpAny M A t (fun a s' => (∀ b, Dead b s.heap → Dead b s'.heap) → Q a s') (fun e s' => (∀ b, Dead b s.heap → Dead b s'.heap) → E e s') s) : wpAny M A t Q E s :=
  fun Γ p hΓ => Sem.wp_mono M Γ t (fun _ _ _ x => x.2 x.1) (fun _ _ _ x => x.2 x.1) p s (wp_dead M Γ (fun b => Dead b s.heap) t _ _ p s (fun _ h => h) (h Γ p hΓ))
end Mine


end
noncomputable section
set_option autoImplicit false
set_option linter.unusedVariables false
namespace Mine
open PySem PySem.W PyProof.Rows PySem.Calls
/-- the exception class c of the text, a kind of ValueError -/
def veBases : List Value := [.type "ValueError", .type "Exception", .type "BaseException", .type "object"]
def XCls (C : Cx) (c : String) (Cl : Addr) : Prop := OwnCls (Str.ofString c) Cl veBases "ValueError.__new__" C.mg C.hB
section
variable {C : Cx} {sc : Scope} {k : Nat}
def xRaise (c : String) : STX := fun m σ _ X => X c m σ
theorem HSX1.raise (O : C.Ok) (hz : C.held = Option.none) {c : String} {Cl : Addr} (K : XCls C c Cl) {x : Str} {n : Nat} {np ap cpos pos : Pos} (hn : sc.names.lookup (Str.ofString c) = some .globalImplicit) (hdb : (Str.ofString c == ("__debug__" : Str)) = false) :
    HSX1 C sc k (.Raise (some (.Call (.Name (Str.ofString c) np) [.Constant (.str x) n ap] [] cpos)) Option.none pos) (xRaise c) := by
  refine ⟨?_⟩; intro env A s m σ Q X P E en ao R F W q hP hX
  have OK : OwnCls (Str.ofString c) Cl veBases "ValueError.__new__" C.mg s.heap := K.keeps R.base
  obtain ⟨tl, N, nm, qn, bs, hdct, sn, sub, ab, col, dd, k0, k1, k2, k3, k5, mN, hC, hN, hni, T⟩ := OK.obj
  refine with_dead ?_
  refine wpAny_Raise_call_subT (C := Cl) (nm := nm) (q := qn) (N := N) (bs := bs) (bm := tl) (hdct := hdct) (sn := sn) (sub := sub) (ab := ab) (col := col) (dd := dd) (k0 := k0) (k1 := k1) (k2 := k2) (k3 := k3) (k5 := k5)
    PySem.F.excBase_ValueError (mN := mN) (T.hasType PySem.F.excBase_ValueError.hasBase) (ao.none hz) rfl hni
    (Calls.Name_function_global en.k (en.of hn) (Calls.loadGlobal_global (mg := C.mg) (by rw [en.globals]; exact O.g.keeps R.base) K.bound ⟨rfl, ?_⟩) hdb)
  refine evalArgs_of rfl ?_
  show wpAny _ A (spliced ((false, eval (.Constant (.str x) n ap) env) :: backTo cpos (starEach [] env))) _ _ s
  refine Calls.spliced_cons (Calls.Constant_str (Calls.spliced_nil ⟨rfl, by rw [sizeLine_eq]; show 1 ≤ _; decide, hC, hN, T, fun h' e hm hdead => ?_⟩))
  obtain ⟨t, he, _, _⟩ := hm.there
  have hge : s.heap.objs.size ≤ e := by
    rcases Nat.lt_or_ge e s.heap.objs.size with z | z
    · have := (hdead e ⟨hm.new, z⟩).1
      have he' : h'.get? e = _ := he
      rw [he'] at this; cases this
    · exact z
  have hsz : s.heap.objs.size ≤ h'.objs.size := Nat.le_trans hge (Nat.le_of_lt (Heap.lt_size he))
  have hkeep : ∀ b o, s.heap.get? b = some o → h'.get? b = some o := hm.keeps
  refine hX c e m σ _ ⟨⟨_, _, Cl, he, K.bound, rfl, rfl, rfl, by show 2 < 6; decide, .inl ⟨.inl rfl, rfl⟩⟩, hge, R.freshNone hm.new⟩ (R.grow hkeep) (F.grow hkeep) (Step.grow hkeep hsz) q
/-- an expression that may raise -/
abbrev ETX := Loc → View → (V → View → Prop) → (String → View → Prop) → Prop
structure HEX (C : Cx) (sc : Scope) (k : Nat) (e : Expr) (T : ETX) : Prop where
  run : ∀ (env : Env) (A : Around) (s : Shared) (m : Loc) (σ : View) (Q : V → View → Prop) (X : String → View → Prop) (P : Value → Shared → Prop) (E : Value → Shared → Prop),
    EnvOk env sc → AOk C A k → RelG C σ s → FrameRel C env m σ s.heap → FOk C A env σ s.heap → T m σ Q X →
    (∀ v w σ' s', VRel C.aS s'.heap v w → RelG C σ' s' → Step no σ σ' s.heap s'.heap → Q v σ' → P w s') → AftXc C σ s X E →
    wpAny (model C.prog C.w) A (eval e env) P E s
theorem FOk.fs {A : Around} {env : Env} {m : Loc} {σ : View} {s : Shared} (W : FOk C A env σ s.heap) (F : FrameRel C env m σ s.heap) (hk : env.scope.kind = .function) : ∃ fs, A.frames = some fs ∧ FrsOk C σ s.heap fs := by
  obtain ⟨outer, h1, h2, h3⟩ := W.frames
  refine ⟨_, h1, fun y hy => ?_⟩
  rcases List.mem_cons.mp hy with rfl | hy
  · obtain ⟨mm, ⟨oL, es, ep, hoL, hdL, _⟩, _⟩ := F.ns
    exact ⟨by rw [hk]; decide, _, W.frame, F.baseL, F.sepL, oL, es, ep, hoL, hdL⟩
  · exact h2 y hy
def FnAtX (C : Cx) (j : Nat) (f : String) (spec : SpecX) : Prop :=
  ∃ a o fd, C.mg (Str.ofString f) = some (.ref a) ∧ C.hB.get? a = some o ∧ o.data = .func fd ∧ FnSoundX C j a spec
def xCall (spec : SpecX) (L : LT) : ETX := fun m σ Q X => L m σ fun vs σ' => spec vs σ' Q X
theorem HEX.callAt {p : Program} (G : Gl C p) {f : String} {np pos : Pos} {es : List Expr} {L : LT} {spec : SpecX} {j : Nat} (hf : FnAtX C j f spec) (hj : j < k)
    (hn : sc.names.lookup (Str.ofString f) = some .globalImplicit) (hdb : (Str.ofString f == ("__debug__" : Str)) = false)
    (hl : HL C sc k es L) (hp : plainArgs es = true) : HEX C sc k (.Call (.Name (Str.ofString f) np) es [] pos) (xCall spec L) := by
  obtain ⟨a, o, fd, hg, ho, hd, hf⟩ := hf
  refine ⟨?_⟩; intro env A s m σ Q X P E en ao R F W q hP hX
  refine wpAny_Call_NameR (Calls.Name_function_global en.k (en.of hn) (Calls.loadGlobal_global (mg := C.mg) (by rw [en.globals]; exact G.ok.g.keeps R.base) hg ?_) hdb)
  refine Calls.callWith_function (o := o) (fd := fd) (evalArgs_of hp (hl.run env A s m σ pos _ _ E en ao R F q fun vs ws σ₁ s₁ hv R₁ S₁ q₁ => ⟨⟨R₁.base _ _ ho, hd⟩, ?_⟩))
  have W₁ := W.step (S₁.own (env := env))
  exact wpAny_call (hf A s₁ σ₁ vs ws Q X P E (ao.le hj) (W₁.fs (F.step R S₁) en.k) R₁ hv q₁ (fun v w σ' s' hv' R' S' q' => hP v w σ' s' hv' R' (S₁.trans S') q') fun c e σ' s' fl R' S' x => hX c e σ' s' (fl.less S₁.size) R' (S₁.trans S') x)
def xPair (T : ET) (U : ETX) : ETX := fun m σ Q X => T m σ fun v σ₁ => U m σ₁ (fun u σ₂ => Q (.tup [v, u]) σ₂) X
theorem HEX.pair {e1 e2 : Expr} {n : Nat} {pos : Pos} {T : ET} {U : ETX} (h1 : HE C sc k e1 T) (h2 : HEX C sc k e2 U) (hs1 : notStar e1 = true) (hs2 : notStar e2 = true) : HEX C sc k (.Tuple [e1, e2] n pos) (xPair T U) := by
  refine ⟨?_⟩; intro env A s m σ Q X P E en ao R F W q hP hX
  show wpAny _ A (do standAt pos; newTuple (← spliced (backTo pos (starEach [e1, e2] env)))) P E s
  refine wpAny_bind (wpAny_standAt (wpAny_bind ?_))
  rw [starEach_plain hs1]
  show wpAny _ A (spliced ((false, eval e1 env) :: backTo pos (starEach [e2] env))) _ E s
  refine Calls.spliced_cons (h1.run env A s m σ _ _ E en ao R F q fun v w σ₁ s₁ hv R₁ S₁ q₁ => ?_)
  rw [starEach_plain hs2]
  show wpAny _ A (spliced ((false, eval e2 env) :: backTo pos (starEach [] env))) _ E s₁
  refine Calls.spliced_cons (h2.run env A s₁ m σ₁ _ X _ E en ao R₁ (F.step R S₁) (W.step S₁.own) q₁ (fun u w' σ₂ s₂ hu R₂ S₂ q₂ => ?_) fun c e σ' s' fl R' S' x => hX c e σ' s' (fl.less S₁.size) R' (S₁.trans S') x)
  refine Calls.spliced_nil ?_
  have hv2 := hv.keep (S₂.tupsN R₁)
  refine wpAny_newTuple (hP _ _ σ₂ _ (.tup (ws := [w, w']) ⟨_, Heap.get?_push_size _ rfl, rfl, _, rfl⟩ (.cons (hv2.keep fun _ _ e _ => push_old _ _ e) (.cons (hu.keep fun _ _ e _ => push_old _ _ e) .nil))) (R₂.grow push_old) ((S₁.trans S₂).trans .push) q₂) (by rw [sizeLine_eq]; show 2 ≤ _; decide)
/-- statements with such an expression -/
theorem AftXc.of {env : Env} {m : Loc} {σ : View} {s : Shared} {X : XT} {E : Value → Shared → Prop} (R : RelG C σ s) (F : FrameRel C env m σ s.heap) (hX : AftX C env σ s X E) : AftXc C σ s (fun c σ' => X c m σ') E :=
  fun c e σ' s' fl R' S' x => hX c e m σ' s' (fl.mono fun _ h => .inr (.inl h)) R' (F.step R S') S'.own x
def xSet (x : String) (T : ETX) : STX := fun m σ Q X => T m σ (fun v σ' => Q .next (put m x v) σ') fun c σ' => X c m σ'
theorem HSX1.set {x : String} {p pos : Pos} {value : Expr} {T : ETX} (hx : Var sc x) (he : HEX C sc k value T) (hs : ∀ env, EnvOk env sc → swapsWith value (some (.Name (Str.ofString x) p)) pos.line env = pure false) : HSX1 C sc k (.Assign [.Name (Str.ofString x) p] value pos) (xSet x T) := by
  refine ⟨?_⟩; intro env A s m σ Q X P E en ao R F W q hP hX
  refine wpAny_Assign_Name (he.run env A s m σ _ _ _ E en ao R F W q (fun v w σ₁ s₁ hv R₁ S₁ q₁ => ?_) (AftXc.of R F hX)) (hs env en)
  exact store en R₁ (F.step R S₁) hx hv fun s₂ R₂ F₂ S₂ => hP .next .next _ σ₁ s₂ .next R₂ F₂ ((S₁.own).trans S₂) q₁
def xRet (T : ETX) : STX := fun m σ Q X => T m σ (fun v σ' => Q (.ret v) m σ') fun c σ' => X c m σ'
theorem HSX1.ret {pos : Pos} {value : Expr} {T : ETX} (he : HEX C sc k value T) : HSX1 C sc k (.Return (some value) pos) (xRet T) := by
  refine ⟨?_⟩; intro env A s m σ Q X P E en ao R F W q hP hX
  exact wpAny_Return_some (he.run env A s m σ _ _ _ E en ao R F W q (fun v w σ₁ s₁ hv R₁ S₁ q₁ => hP (.ret v) (.ret w) m σ₁ s₁ (.ret hv) R₁ (F.step R S₁) S₁.own q₁) (AftXc.of R F hX))
end
end Mine


end
noncomputable section
set_option autoImplicit false
set_option linter.unusedVariables false
set_option maxRecDepth 100000
namespace Mine
open PySem PySem.W PyProof.Rows PySem.Calls
def lookNames : List Str := ["__init__", "__getattribute__", "__getattr__", "__class__"]
/-- the bases of an exception class of the text: empty classes, then ValueError's -/
inductive OT (h : Heap) : List Value → Prop
  | base : OT h veBases
  | own {A : Addr} {c0 : Value} {dd : Option Addr} {cd : ClassData} {sl : Array (Option Value)} {mA : Str → Option Value} {tl : List Value} :
      h.get? A = some { cls := c0, dict := dd, data := .cls cd, slots := sl } → h.Ns cd.ns mA → (∀ n ∈ lookNames, mA n = none) → OT h tl → OT h (.ref A :: tl)
theorem OT.keeps {h h' : Heap} {l : List Value} (T : OT h l) (k : ∀ b o, h.get? b = some o → h'.get? b = some o) : OT h' l := by
  induction T with
  | base => exact .base
  | own h1 h2 h3 _ ih => exact .own (k _ _ h1) (h2.keeps k) h3 ih
theorem OT.tail {h : Heap} {l : List Value} (T : OT h l) : OwnTail h veBases l := by
  induction T with
  | base => exact .base
  | own h1 h2 h3 _ ih => exact .own h1 h2 (h3 _ (.head _)) ih
/-- an exception class of the text -/
def XC (h : Heap) (Cl : Addr) (bm : List Value) : Prop := ∃ N nm q bs hdct sn sub ab col dd k0 k1 k2 k3 k5 mN, h.get? Cl = some (excClassObj nm q Cl N bs bm hdct sn sub ab col dd k0 k1 k2 k3 k5 "ValueError.__new__") ∧ h.Ns N mN ∧ (∀ n ∈ lookNames, mN n = none) ∧ OT h bm
theorem XC.keeps {h h' : Heap} {Cl : Addr} {bm : List Value} (X : XC h Cl bm) (k : ∀ b o, h.get? b = some o → h'.get? b = some o) : XC h' Cl bm := by
  obtain ⟨N, nm, q, bs, hdct, sn, sub, ab, col, dd, k0, k1, k2, k3, k5, mN, h1, h2, h3, h4⟩ := X
  exact ⟨N, nm, q, bs, hdct, sn, sub, ab, col, dd, k0, k1, k2, k3, k5, mN, k _ _ h1, h2.keeps k, h3, h4.keeps k⟩
section
variable {prog : Program} {w : World} {A : Around} {E : Value → Shared → Prop} {s : Shared} {Cl a : Addr} {bm : List Value} {o : Obj}
theorem look_tail {l : List Value} {n : Str} {y : Option Value} {Q : Option Value → Shared → Prop} {M : Model} (T : OT s.heap l) (hn : n ∈ lookNames) (hrest : lookupAlong veBases n = pure y) (hq : Q y s) : wpAny M A (lookupAlong l n) Q E s := by
  induction T with
  | base => rw [hrest]; exact wpAny_pure hq
  | own hA hN h3 _ ih =>
    rw [lookupAlong_cons]
    obtain ⟨h, g, d, t, os⟩ := s
    refine wpAny_bind (wpAny_classOwn_cls hA hN ?_)
    rw [h3 n hn]
    exact ih
theorem look_exc {n : Str} {y : Option Value} {Q : Option Value → Shared → Prop} {M : Model} (X : XC s.heap Cl bm) (hn : n ∈ lookNames) (hB : typeLookup (.type "ValueError") n = pure y) (hq : Q y s) : wpAny M A (typeLookup (.ref Cl) n) Q E s := by
  obtain ⟨N, nm, q, bs, hdct, sn, sub, ab, col, dd, k0, k1, k2, k3, k5, mN, h1, h2, h3, h4⟩ := X
  have hrest : lookupAlong veBases n = pure y := by rw [typeLookup_eq, PySem.F.excBase_ValueError.mroIs] at hB; exact hB
  rw [typeLookup_eq]
  obtain ⟨h, g, d, t, os⟩ := s
  refine wpAny_bind (wpAny_mroOf_exc h1 ?_)
  rw [lookupAlong_cons]
  refine wpAny_bind (wpAny_classOwn_exc h1 h2 ?_)
  rw [h3 n hn]
  exact look_tail h4 hn hrest hq
theorem sub_exc {base : Value} {Q : Bool → Shared → Prop} {M : Model} (X : XC s.heap Cl bm) (hq : Q ((Value.ref Cl :: bm).contains base) s) : wpAny M A (isSubtype (.ref Cl) base) Q E s := by
  obtain ⟨N, nm, q, bs, hdct, sn, sub, ab, col, dd, k0, k1, k2, k3, k5, mN, h1, h2, h3, h4⟩ := X
  obtain ⟨h, g, d, t, os⟩ := s
  exact wpAny_isSubtype_exc h1 hq
theorem lk_ve_class : typeLookup (.type "ValueError") "__class__" = pure (some (.builtin "object.__class__")) := by rw [typeLookup_type, builtinLookup_eq_fast]; kernel_rfl
theorem OT.obj {h : Heap} {l : List Value} (T : OT h l) : l.contains (.type "object") = true ∧ l.contains (.type "BaseException") = true := by
  induction T with
  | base => decide
  | own _ _ _ _ ih => rw [List.contains_cons, List.contains_cons, ih.1, ih.2]; simp
theorem XC.obj {h : Heap} (X : XC h Cl bm) : bm.contains (.type "object") = true ∧ bm.contains (.type "BaseException") = true := by
  obtain ⟨N, nm, q, bs, hdct, sn, sub, ab, col, dd, k0, k1, k2, k3, k5, mN, h1, h2, h3, h4⟩ := X
  exact h4.obj
theorem class_get {R : Result → Shared → Prop} (X : XC s.heap Cl bm) (hx : s.heap.get? a = some o) (hc : o.cls = .ref Cl) (hq : R (.ok (.ret (.ref Cl))) s) :
    codeAny (model prog w) A (.call (.builtin "getset_descriptor.__get__") ⟨[.builtin "object.__class__", .ref a, .ref Cl], []⟩) R s := by
  have hT5 : s.TypeIs (.builtin "object.__class__") "getset_descriptor" := F.typeOf_object_class
  have hcB : (Value.ref Cl :: bm).contains (.type (".".intercalate ("object.__class__".cutAt '.').dropLast)) = true := by rw [F.owner_object_class, List.contains_cons, X.obj.1, Bool.or_true]
  refine codeAny_call_builtin F.slot_gs_get.plain F.entry_gs_get (F.slot_gs_get.check _ _ _ _ _ _ _ _ hT5 (F.args_gs_get _ _ _) ?_)
  repeat (any_goals (first | assumption | (with_reducible refine wpAny_loadPart hx ?_; rw [hc]) | (with_reducible refine sub_exc X ?_; rw [hcB]) | wp_step))
  refine ⟨Code.quiet_builtin _ (by decide +kernel), codeAny_builtin F.entry_object_class ?_⟩
  repeat (any_goals (first | assumption | (with_reducible refine wpAny_loadPart hx ?_; rw [hc]) | wp_step))
theorem class_entry {tk : Tok} {Q : Fin → Shared → Prop} (X : XC s.heap Cl bm) (hx : s.heap.get? a = some o) (hc : o.cls = .ref Cl) (hq : Q (.done (.ret (.ref Cl))) s) :
    wpAny (model prog w) A (Builtin.«object.__getattribute__» ⟨[.ref a, .str "__class__" tk], []⟩) Q E s := by
  have hT5 : s.TypeIs (.builtin "object.__class__") "getset_descriptor" := F.typeOf_object_class
  have f5 := F.typeOf_object_class
  have f6 := F.slot_gs_get.lookup
  have f7 := F.slot_gs_set.lookup
  have hm : ("__class__" : Str) ∈ lookNames := .tail _ (.tail _ (.tail _ (.head _)))
  repeat (any_goals (first | assumption | (with_reducible refine wpAny_loadPart hx ?_; rw [hc]) | with_reducible refine look_exc X hm lk_ve_class ?_ | wp_step))
  refine class_get X hx hc ?_
  repeat (any_goals (first | assumption | wp_step))
theorem check_ga {nameV : Value} {Q : Unit → Shared → Prop} {M : Model} (X : XC s.heap Cl bm) (hx : s.heap.get? a = some o) (hc : o.cls = .ref Cl) (hq : Q () s) : wpAny M A (checkBuiltinCall "BaseException.__getattribute__" ⟨[.ref a, nameV], []⟩) Q E s := by
  have hk : builtinKind "BaseException.__getattribute__" = some .slot := by decide +kernel
  have hsplit : splitId "BaseException.__getattribute__" = some ("BaseException", "__getattribute__") := by decide +kernel
  have hcB : (Value.ref Cl :: bm).contains (.type "BaseException") = true := by rw [List.contains_cons, X.obj.2, Bool.or_true]
  have ha := F.args_bexc_ga (.ref a) nameV
  simp only [checkBuiltinCall, hk, hsplit]
  refine wpAny_bind ?_
  · unfold isInstance
    repeat (first | (with_reducible refine wpAny_loadPart hx ?_; rw [hc]) | (with_reducible refine sub_exc X ?_; rw [hcB]) | wp_step)
    exact hq
theorem class_call {tk : Tok} {R : Result → Shared → Prop} (X : XC s.heap Cl bm) (hx : s.heap.get? a = some o) (hc : o.cls = .ref Cl) (hq : R (.ok (.ret (.ref Cl))) s) :
    codeAny (model prog w) A (.call (.builtin "BaseException.__getattribute__") ⟨[.ref a, .str "__class__" tk], []⟩) R s :=
  codeAny_call_builtin F.attrBase_ValueError.ga.plain F.entry_bexc_ga (check_ga X hx hc (class_entry X hx hc hq))
theorem class_by {tk : Tok} {fill expr : Bool} {Q : Value → Shared → Prop} (X : XC s.heap Cl bm) (hx : s.heap.get? a = some o) (hc : o.cls = .ref Cl) (hq : Q (.ref Cl) s) :
    wpAny (model prog w) A (getAttrBy (.ref a) (.str "__class__" tk) fill expr) Q E s := by
  have f3 := F.attrBase_ValueError.ga.bind (.ref a)
  have hx0 : (expr && onTheHeap (Value.builtin "BaseException.__getattribute__")) = false := by cases expr <;> rfl
  have hx2 : (Value.builtin "BaseException.__getattribute__" == Value.builtin "object.__getattribute__") = false := by decide +kernel
  have hx1 : (onTheHeap (Value.ref Cl) && Value.builtin "BaseException.__getattribute__" == Value.builtin "object.__getattribute__") = false := by rw [hx2]; rfl
  have hm1 : ("__getattribute__" : Str) ∈ lookNames := .tail _ (.head _)
  have hm2 : ("__getattr__" : Str) ∈ lookNames := .tail _ (.tail _ (.head _))
  repeat (any_goals (first | assumption | (with_reducible refine wpAny_loadPart hx ?_; rw [hc]) | with_reducible refine look_exc X hm1 F.attrBase_ValueError.ga.lookup ?_ | with_reducible refine look_exc X hm2 F.attrBase_ValueError.noGetattr ?_ | wp_step))
  refine class_call X hx hc ?_
  repeat (any_goals (first | assumption | wp_step))
theorem class_attr {Q : Option Value → Shared → Prop} (X : XC s.heap Cl bm) (hx : s.heap.get? a = some o) (hc : o.cls = .ref Cl) (hq : Q (some (.ref Cl)) { s with toks := s.toks + 1 }) : wpAny (model prog w) A (getAttr? (.ref a) "__class__") Q E s := by
  obtain ⟨h, g, d, t, os⟩ := s
  dsimp only at X hx hq
  unfold getAttr? getAttrBy?
  repeat (any_goals (first | assumption | with_reducible apply class_by (s := ⟨h, g, d, t + 1, os⟩) X hx hc | wp_step))
/-- isinstance of an exception of the text: a class of the text, or a built-in one -/
theorem isi_exc_ref {H : Addr} {bm' : List Value} {dep : Int} {tk : Tok} {Q : Fin → Shared → Prop} (X : XC s.heap Cl bm) (XH : XC s.heap H bm') (hx : s.heap.get? a = some o) (hc : o.cls = .ref Cl)
    (hq : ∀ tk', Q (.done (.ret (.bool ((Value.ref Cl :: bm).contains (.ref H))))) { s with toks := tk' }) :
    wpAny (model prog w) A (Builtin.«isinstance.nested» ⟨[.ref a, .ref H, .int dep tk], []⟩) Q E s := by
  obtain ⟨N, nm, q, bs, hdct, sn, sub, ab, col, dd, k0, k1, k2, k3, k5, mN, h1, h2, h3, h4⟩ := XH
  have q0 := hq s.toks
  by_cases e : Cl = H
  · subst e
    have hcc : (Value.ref Cl :: bm).contains (.ref Cl) = true := by simp
    rw [hcc] at q0
    have hee : (Value.ref Cl == Value.ref Cl) = true := by simp
    repeat (any_goals (first | assumption | (with_reducible refine wpAny_loadPart hx ?_; rw [hc]) | wp_step))
  · have hne : (Value.ref Cl == Value.ref H) = false := by simpa using e
    obtain ⟨h, g, d, t, os⟩ := s
    dsimp only at X hx hq h1
    have hTH : (⟨h, g, d, t, os⟩ : Shared).TypeIs (.ref H) "type" := ⟨_, h1, rfl⟩
    cases hb : (Value.ref Cl :: bm).contains (.ref H) with
    | true =>
      rw [hb] at hq
      repeat (any_goals (first | exact hq _ | assumption | (with_reducible refine wpAny_loadPart_at hx ?_; rw [hc]) | (with_reducible refine wpAny_loadPart_at h1 ?_) | (with_reducible refine sub_exc (s := ⟨h, g, d, t, os⟩) X ?_; rw [hb]) | wp_step))
    | false =>
      rw [hb] at hq
      repeat (any_goals (first | exact hq _ | assumption | (with_reducible refine wpAny_loadPart_at hx ?_; rw [hc]) | (with_reducible refine wpAny_loadPart_at h1 ?_) | (with_reducible refine sub_exc (s := ⟨h, g, d, t, os⟩) X ?_; rw [hb]) | with_reducible apply class_attr (s := ⟨h, g, d, t, os⟩) X hx hc | wp_step))
      obtain ⟨N', nm', q', bs', hdct', sn', sub', ab', col', dd', l0, l1, l2, l3, l5, mN', hCl, _⟩ := id X
      refine wpAny_loadPart_at hCl (wpAny_pure ?_)
      dsimp only
      rw [if_neg (by decide)]
      refine wpAny_bind (wpAny_rule (sub_exc (s := ⟨h, g, d, t + 1, os⟩) X ?_))
      rw [hb]
      exact wpAny_pure (hq _)
theorem isi_exc_ty {H : String} {dep : Int} {tk : Tok} {Q : Fin → Shared → Prop} (X : XC s.heap Cl bm) (hx : s.heap.get? a = some o) (hc : o.cls = .ref Cl) (hty : typeOf (.type H) = pure (.type "type")) (hb : bm.contains (.type H) = true)
    (hq : ∀ tk', Q (.done (.ret (.bool true))) { s with toks := tk' }) :
    wpAny (model prog w) A (Builtin.«isinstance.nested» ⟨[.ref a, .type H, .int dep tk], []⟩) Q E s := by
  obtain ⟨h, g, d, t, os⟩ := s
  dsimp only at X hx hq
  have hne : (Value.ref Cl == Value.type H) = false := rfl
  have hb' : (Value.ref Cl :: bm).contains (.type H) = true := by rw [List.contains_cons, hb, Bool.or_true]
  repeat (any_goals (first | exact hq _ | assumption | (with_reducible refine wpAny_loadPart_at hx ?_; rw [hc]) | (with_reducible refine sub_exc (s := ⟨h, g, d, t, os⟩) X ?_; rw [hb']) | wp_step))
end
end Mine


end
noncomputable section
set_option autoImplicit false
set_option linter.unusedVariables false
namespace Mine
open PySem PySem.W PyProof.Rows PySem.Calls
def deadObj : Obj := { cls := .none, dict := none, data := .freed }
/-- the heap with one object more -/
def heapAdd (h : Heap) (e : Addr) (o : Obj) : Heap := if e < h.objs.size then ⟨h.objs.setIfInBounds e o, h.life⟩ else ⟨(h.objs ++ Array.replicate (e - h.objs.size) deadObj).push o, h.life⟩
theorem heapAdd_get {h : Heap} {e : Addr} {o : Obj} (hz : h.get? e = none) (ho : o.isFreed = false) (b : Addr) : (heapAdd h e o).get? b = if b = e then some o else h.get? b := by
  have at_ : (heapAdd h e o).objs[e]? = some o := by
    unfold heapAdd
    split
    · rename_i q
      show (h.objs.setIfInBounds e o)[e]? = some o
      rw [Array.getElem?_setIfInBounds_self_of_lt q]
    · rename_i q
      have sz : (h.objs ++ Array.replicate (e - h.objs.size) deadObj).size = e := by
        rw [Array.size_append, Array.size_replicate]
        exact Nat.add_sub_cancel' (Nat.le_of_not_lt q)
      show ((h.objs ++ Array.replicate (e - h.objs.size) deadObj).push o)[e]? = some o
      rw [Array.getElem?_push, sz, if_pos rfl]
  have other : b ≠ e → ∀ x, x.isFreed = false → ((heapAdd h e o).objs[b]? = some x ↔ h.objs[b]? = some x) := by
    intro hb x hf
    unfold heapAdd
    split
    · show (h.objs.setIfInBounds e o)[b]? = some x ↔ _
      rw [Array.getElem?_setIfInBounds_ne (Ne.symm hb)]
    · rename_i q
      have sz : (h.objs ++ Array.replicate (e - h.objs.size) deadObj).size = e := by
        rw [Array.size_append, Array.size_replicate]
        exact Nat.add_sub_cancel' (Nat.le_of_not_lt q)
      show ((h.objs ++ Array.replicate (e - h.objs.size) deadObj).push o)[b]? = some x ↔ _
      rw [Array.getElem?_push, sz, if_neg hb, Array.getElem?_append]
      split
      · exact Iff.rfl
      · rename_i q2
        rw [Array.getElem?_replicate, Array.getElem?_eq_none (Nat.le_of_not_lt q2)]
        split
        · exact ⟨fun z => (by cases z; cases hf), fun z => (by cases z)⟩
        · exact Iff.rfl
  by_cases hb : b = e
  · rw [if_pos hb, hb]
    exact Heap.get?_some_iff.mpr ⟨at_, ho⟩
  · rw [if_neg hb]
    cases hg : h.get? b with
    | some x =>
      obtain ⟨h1, h2⟩ := Heap.get?_some_iff.mp hg
      exact Heap.get?_some_iff.mpr ⟨(other hb x h2).mpr h1, h2⟩
    | none =>
      cases hq : (heapAdd h e o).get? b with
      | none => rfl
      | some x =>
        obtain ⟨h1, h2⟩ := Heap.get?_some_iff.mp hq
        have := Heap.get?_some_iff.mpr ⟨(other hb x h2).mp h1, h2⟩
        rw [hg] at this; cases this
/-- within a handler: the exception belongs to the base -/
def Cx.hold (C : Cx) (e : Addr) (o : Obj) : Cx := { C with s₁ := { C.s₁ with heap := heapAdd C.s₁.heap e o }, held := some e }
section
variable {C : Cx} {e : Addr} {o : Obj} {σ : View} {s : Shared} {env : Env} {m : Loc} {p : Program} {vs : Array Value}
theorem hold_keeps (hz : C.hB.get? e = none) (ho : o.isFreed = false) : ∀ b x, C.hB.get? b = some x → (C.hold e o).hB.get? b = some x := fun b x h => by
  show (heapAdd C.hB e o).get? b = some x
  rw [heapAdd_get hz ho, if_neg (by rintro rfl; rw [hz] at h; cases h)]; exact h
theorem hold_at (hz : C.hB.get? e = none) (ho : o.isFreed = false) : (C.hold e o).hB.get? e = some o := by
  show (heapAdd C.hB e o).get? e = some o
  rw [heapAdd_get hz ho, if_pos rfl]
theorem RelG.hold (R : RelG C σ s) (hz : C.hB.get? e = none) (ho : o.isFreed = false) (he : s.heap.get? e = some o) (hs : σ e = none) : RelG (C.hold e o) σ s := by
  refine ⟨let ⟨h, tk, d, q⟩ := R.rest; ⟨h, tk, d, by rw [q]; rfl⟩, fun b x h => ?_, fun a x h => ?_, fun a h => ?_⟩
  · have h' : (heapAdd C.hB e o).get? b = some x := h
    rw [heapAdd_get hz ho] at h'
    split at h'
    · rename_i q; cases h'; rw [q]; exact he
    · exact R.base b x h'
  · have := R.view a x h
    cases x <;> exact this
  · show (heapAdd C.hB e o).get? a = none
    rw [heapAdd_get hz ho, if_neg (by rintro rfl; exact h hs)]; exact R.apart a h
theorem RelG.drop (R : RelG (C.hold e o) σ s) (hz : C.hB.get? e = none) (ho : o.isFreed = false) : RelG C σ s := by
  refine ⟨let ⟨h, tk, d, q⟩ := R.rest; ⟨h, tk, d, by rw [q]; rfl⟩, fun b x h => R.base b x (hold_keeps hz ho b x h), fun a x h => ?_, fun a h => ?_⟩
  · have := R.view a x h
    cases x <;> exact this
  · have : (heapAdd C.hB e o).get? a = none := R.apart a h
    rw [heapAdd_get hz ho] at this
    split at this
    · cases this
    · exact this
theorem FrameRel.hold (F : FrameRel C env m σ s.heap) (hz : C.hB.get? e = none) (ho : o.isFreed = false) (he : s.heap.get? e = some o) (hd : o.data = .fields vs) : FrameRel (C.hold e o) env m σ s.heap := by
  refine ⟨F.ns, F.cel, F.cells, F.sepL, ?_, fun n c hc => ?_, F.dist, F.has⟩
  · show (heapAdd C.hB e o).get? env.locals = none
    rw [heapAdd_get hz ho, if_neg ?_]
    · exact F.baseL
    · rintro q
      obtain ⟨mm, ⟨oL, es, ep, hoL, hdL, _⟩, _⟩ := F.ns
      rw [q, he] at hoL; cases hoL; rw [hd] at hdL; cases hdL
  · show (heapAdd C.hB e o).get? c = none
    rw [heapAdd_get hz ho, if_neg ?_]
    · exact F.baseC n c hc
    · rintro q
      obtain ⟨v, oc, hoc, hdc⟩ := F.cells n c hc
      rw [q, he] at hoc; cases hoc; rw [hd] at hdc; cases hdc
theorem FrameRel.drop (F : FrameRel (C.hold e o) env m σ s.heap) (hz : C.hB.get? e = none) (ho : o.isFreed = false) : FrameRel C env m σ s.heap := by
  have dr : ∀ b, (C.hold e o).hB.get? b = none → C.hB.get? b = none := fun b h => by
    cases q : C.hB.get? b with
    | none => rfl
    | some x => rw [hold_keeps hz ho b x q] at h; cases h
  exact ⟨F.ns, F.cel, F.cells, F.sepL, dr _ F.baseL, fun n c hc => dr _ (F.baseC n c hc), F.dist, F.has⟩
theorem Cx.Ok.hold (O : C.Ok) (hz : C.hB.get? e = none) (ho : o.isFreed = false) (hd : o.data = .fields vs) (h2 : vs[2]? = some .none) : (C.hold e o).Ok where
  g := O.g.keeps (hold_keeps hz ho)
  b := O.b.keeps (hold_keeps hz ho)
  nolimit := O.nolimit.keeps (hold_keeps hz ho)
  mods := let ⟨x, hx⟩ := O.mods; ⟨x, hold_keeps hz ho _ _ hx⟩
  few := O.few
  heldOk := fun e' h => by
    have : e' = e := by
      have h' : some e = some e' := h
      cases h'; rfl
    subst this
    exact ⟨o, vs, hold_at hz ho, hd, h2⟩
  script := let ⟨ws, h1, h2, h3⟩ := O.script; ⟨ws, h1.at fun x hx => hold_keeps hz ho _ _ hx, h2, h3⟩
theorem Gl.hold (G : Gl C p) (hz : C.hB.get? e = none) (ho : o.isFreed = false) (hd : o.data = .fields vs) (h2 : vs[2]? = some .none) : Gl (C.hold e o) p where
  ok := G.ok.hold hz ho hd h2
  mb := G.mb
  free := G.free
  fn := fun d hd' => by
    obtain ⟨a, o', pm, code, doc, h1, h2', h3, h4⟩ := G.fn d hd'
    exact ⟨a, o', pm, code, doc, h1, hold_keeps hz ho _ _ h2', h3, h4.keeps (hold_keeps hz ho)⟩
end
end Mine


end
noncomputable section
set_option autoImplicit false
set_option linter.unusedVariables false
set_option maxRecDepth 100000
namespace Mine
open PySem PySem.W PyProof.Rows PySem.Calls
section
variable {prog : Program} {w : World} {A : Around} {E : Value → Shared → Prop} {s : Shared} {Cl H a : Addr} {bm bmH : List Value} {o : Obj} {M : Model}
theorem matches_exc {Q : Bool → Shared → Prop} (X : XC s.heap Cl bm) (XH : XC s.heap H bmH) (hx : s.heap.get? a = some o) (hc : o.cls = .ref Cl) (hq : Q ((Value.ref Cl :: bm).contains (.ref H)) s) :
    wpAny M A (excMatches (.ref a) (.ref H)) Q E s := by
  have hcB : (Value.ref H :: bmH).contains (.type "BaseException") = true := by rw [List.contains_cons, XH.obj.2, Bool.or_true]
  obtain ⟨N, nm, q, bs, hdct, sn, sub, ab, col, dd, k0, k1, k2, k3, k5, mN, h1, h2, h3, h4⟩ := id XH
  have f := tc_notTuple
  obtain ⟨h, g, d, t, os⟩ := s
  dsimp only at X XH hx h1
  unfold excMatches
  repeat (first | (with_reducible refine wpAny_loadPart_at hx ?_; rw [hc]) | with_reducible refine wpAny_loadPart_at h1 ?_ | (with_reducible refine wpAny_isSubtype_exc h1 ?_; rw [hcB]) | (with_reducible refine sub_exc (s := ⟨h, g, d, t, os⟩) X ?_) | wp_step)
  cases hb : (Value.ref Cl :: bm).contains (.ref H) <;> (rw [hb] at hq; wp_walk; exact hq)
end
/-- without a name -/
def cut (m : Loc) (x : String) : Loc := fun y => if y = x then Option.none else m y
section
variable {C : Cx} {sc : Scope} {k : Nat}
theorem unbind {env : Env} {A : Around} {s : Shared} {m : Loc} {σ : View} {x : String} {pos : Pos} {P : Unit → Shared → Prop} {E : Value → Shared → Prop} (en : EnvOk env sc) (R : RelG C σ s) (F : FrameRel C env m σ s.heap)
    (hl : sc.names.lookup (Str.ofString x) = some .local)
    (h : ∀ s', RelG C σ s' → FrameRel C env (cut m x) σ s'.heap → Step (Own env) σ σ s.heap s'.heap → P () s') : wpAny (model C.prog C.w) A (do bindName env (Str.ofString x) .none; unbindBehindTheSuite env (Str.ofString x) pos) P E s := by
  refine wpAny_bind (wpAny_bindName (store_local en R F hl (v := .none) .none fun s₁ R₁ F₁ S₁ => ?_))
  unfold unbindBehindTheSuite
  refine wpAny_onRaise ?_
  obtain ⟨mm, hn, hm⟩ := F₁.ns
  obtain ⟨w, hw, _⟩ := hm x .none (by simp) (en.of hl)
  refine wpAny_unbindName_local (en.of hl) hn hw (by rw [en.k]; rfl) fun h' u hn' hs' => ?_
  obtain ⟨oL, esL, epL, hoL, hdL, _⟩ := id hn
  have kt : TupKeep s₁.heap h' := fun b o e ht => (hs'.2 b (by rintro rfl; rw [hoL] at e; cases e; obtain ⟨_, _, _, hd⟩ := ht; rw [hdL] at hd; cases hd)).trans e
  have kc : ∀ c v, s₁.heap.IsCell c v → h'.IsCell c v := fun c v ⟨o, ho, hd⟩ => ⟨o, (hs'.2 c (by rintro rfl; rw [hoL] at ho; cases ho; rw [hdL] at hd; cases hd)).trans ho, hd⟩
  have cutm : ∀ y v, cut m x y = some v → y ≠ x ∧ put m x .none y = some v := fun y v e => by
    unfold cut at e
    split at e
    · cases e
    · rename_i q; exact ⟨q, by rw [put_ne q]; exact e⟩
  refine h _ ?_ ?_ ?_
  · refine ⟨let ⟨_, tk, d, e⟩ := R₁.rest; ⟨h', tk, d, by rw [e]⟩, fun b o e => ?_, fun a o e => ?_, R₁.apart⟩
    · exact (hs'.2 b (by rintro rfl; rw [F.baseL] at e; cases e)).trans (R₁.base b o e)
    · exact (R₁.view a o e).keep kt fun o' e' => (hs'.2 a (by rintro rfl; rw [F.sepL] at e; cases e)).trans e'
  · refine ⟨⟨_, hn', fun y v e ky => ?_⟩, fun y v e => ?_, fun n c e => ?_, F.sepL, F.baseL, F.baseC, F.dist, F.has⟩
    · obtain ⟨hy, e'⟩ := cutm y v e
      obtain ⟨w', h1, h2⟩ := hm y v e' ky
      exact ⟨w', by simp [show ¬ Str.ofString y = Str.ofString x from fun z => hy (ofString_inj z), h1], h2.keep kt⟩
    · obtain ⟨hy, e'⟩ := cutm y v e
      rcases F₁.cel y v e' with z | ⟨z, c, w', h1, h2, h3⟩
      · exact .inl z
      · exact .inr ⟨z, c, w', h1, kc _ _ h2, h3.keep kt⟩
    · obtain ⟨v, hv⟩ := F₁.cells n c e; exact ⟨v, kc _ _ hv⟩
  · exact (S₁.mono fun _ _ _ z => .inl z).trans (.of (fun b o e n q => (hs'.2 b fun z => q (.inl z)).trans e) (Nat.le_of_eq hs'.1.symm) fun _ a b => absurd a b)
/-- the exception classes that come, and what the program says of them -/
def XAll (C : Cx) (cs : List String) (Ch : Addr) : Prop := ∀ c ∈ cs, ∃ Cc bm, C.mg (Str.ofString c) = some (.ref Cc) ∧ XC C.hB Cc bm ∧ (Value.ref Cc :: bm).contains (.ref Ch) = true
def xTry (n : String) (cs : List String) (T : STX) (U : Addr → String → ST) : STX := fun m σ Q X => T m σ Q fun c m' σ' => c ∈ cs ∧ ∀ e, σ' e = Option.none → U e c (put m' n (.ref e)) σ' fun f m'' σ'' => Q f (cut m'' n) σ''
theorem HSX1.tryAs (O : C.Ok) (hz : C.held = Option.none) {body : List Stmt} {H n : String} {b₀ : Stmt} {suite : List Stmt} {np hpos pos : Pos} {T : STX} {U : Addr → String → ST} {cs : List String} {Ch : Addr} {bmH : List Value} (hb : HSX C sc k body T)
    (hn : sc.names.lookup (Str.ofString H) = some .globalImplicit) (hdb : (Str.ofString H == ("__debug__" : Str)) = false) (hgH : C.mg (Str.ofString H) = some (.ref Ch)) (XH : XC C.hB Ch bmH) (hvar : sc.names.lookup (Str.ofString n) = some .local) (hcl : XAll C cs Ch)
    (hs : ∀ (e : Addr) (o : Obj) (vs : Array Value) (c : String) (Cc : Addr), c ∈ cs → C.mg (Str.ofString c) = some (.ref Cc) → C.hB.get? e = Option.none → o.isFreed = false → o.cls = .ref Cc → o.data = .fields vs → vs[2]? = some .none → HS (C.hold e o) sc k (b₀ :: suite) (U e c)) :
    HSX1 C sc k (.Try body [.ExceptHandler (some (.Name (Str.ofString H) np)) (some (Str.ofString n)) (b₀ :: suite) hpos] [] [] pos) (xTry n cs T U) := by
  refine ⟨?_⟩; intro env A s m σ Q X P E en ao R F W q hP hX
  have hbase : ∀ b o, C.hB.get? b = some o → b < s.heap.objs.size := fun b o e => Heap.lt_size (R.base b o e)
  refine wpAny_Try_except (hb.run env A s m σ _ _ _ _ en ao R F W q (fun f g m₁ σ₁ s₁ hf R₁ F₁ S₁ q₁ => ?_) (fun c e m₁ σ₁ s₁ fl R₁ F₁ S₁ x => ?_))
  · cases hf with
    | next => exact wpAny_execs_nil (hP _ _ m₁ σ₁ s₁ .next R₁ F₁ S₁ q₁)
    | brk => exact hP _ _ m₁ σ₁ s₁ .brk R₁ F₁ S₁ q₁
    | cont => exact hP _ _ m₁ σ₁ s₁ .cont R₁ F₁ S₁ q₁
    | ret hv => exact hP _ _ m₁ σ₁ s₁ (.ret hv) R₁ F₁ S₁ q₁
  · obtain ⟨hc, x⟩ := x
    obtain ⟨Cc, bm, hg, XCc, hsub⟩ := hcl c hc
    have WW : Way C A env c e σ s.heap m₁ σ₁ s₁ (okIn env) := ⟨fl, R₁, F₁, S₁, W.step S₁⟩
    refine WW.note en.k hbase rfl fun s₂ W₂ => ?_
    refine (W₂.mono fun x hx => by rw [hx]; simp).flight en.k hbase fun s₃ W₃ => ?_
    refine wpAny_handleBy_cons (codeAny_handlers_test ?_) (by intro z; cases z)
    obtain ⟨oe, vs, Cl, he, hmg, hcls, hd, h2, h2s, hT⟩ := W₃.fly.obj
    rw [hg] at hmg; cases hmg
    refine Calls.Name_function_global en.k (en.of hn) (Calls.loadGlobal_global (mg := C.mg) (by rw [en.globals]; exact O.g.keeps W₃.rel.base) hgH ?_) hdb
    refine matches_exc (XCc.keeps W₃.rel.base) (XH.keeps W₃.rel.base) he hcls ?_
    rw [hsub]
    refine codeAny_handlers_suite_as ?_
    refine (W₃.mono fun x hx => by rw [hx]; simp).flight en.k hbase fun s₄ W₄ => ?_
    refine store_local en W₄.rel W₄.frame hvar (.ref e) fun s₅ R₅ F₅ S₅ => ?_
    obtain ⟨oe, vs, Cl, he, hmg, hcls, hd, h2, h2s, hT⟩ := W₄.fly.obj
    rw [hg] at hmg; cases hmg
    have hse := W₄.fly.sep
    have hez : C.hB.get? e = Option.none := R.baseNone (get_none_of_size W₄.fly.new)
    have hof : oe.isFreed = false := Obj.isFreed_of_fields hd
    have hne : e ≠ env.locals := by
      rintro z
      obtain ⟨mm, ⟨oL, es, ep, hoL, hdL, _⟩, _⟩ := W₄.frame.ns
      rw [← z, he] at hoL; cases hoL; rw [hd] at hdL; cases hdL
    have he₅ : s₅.heap.get? e = some oe := S₅.keep e oe he hse hne (fun es ep z => by rw [hd] at z; cases z)
    have R₅' := R₅.hold hez hof he₅ hse
    have F₅' := F₅.hold hez hof he₅ hd
    have ao' : AOk (C.hold e oe) (A.mark (some (.ref e))) k := ⟨rfl, ao.depth, ao.units⟩
    refine (hs e oe vs c Cc hc hg hez hof hcls hd h2).run env _ s₅ _ σ₁ _ _ _ en ao' R₅' F₅' (x e hse) fun f g m₆ σ₆ s₆ hf R₆ F₆ S₆ q₆ => ?_
    refine unbind en (R₆.drop hez hof) (F₆.drop hez hof) hvar fun s₇ R₇ F₇ S₇ => ?_
    have SS : Step (Own env) σ σ₆ s.heap s₇.heap := ((W₄.step.trans (S₅.mono fun _ _ _ z => .inl z)).trans S₆).trans S₇
    refine hP f g (cut m₆ n) σ₆ s₇ ?_ R₇ F₇ SS q₆
    cases hf with
    | next => exact .next
    | brk => exact .brk
    | cont => exact .cont
    | ret hv => exact .ret (hv.keep (S₇.tupsO (F₆.drop hez hof) (R₆.drop hez hof)))
end
end Mine


end
noncomputable section
set_option autoImplicit false
set_option linter.unusedVariables false
set_option maxRecDepth 100000
namespace Mine
open PySem PySem.W PyProof.Rows PySem.Calls
section
variable {prog : Program} {w : World} {A : Around} {E : Value → Shared → Prop} {s : Shared} {Cl H a : Addr} {bm bmH : List Value} {o : Obj}
theorem isi_call_ref {Q : Value → Shared → Prop} (X : XC s.heap Cl bm) (XH : XC s.heap H bmH) (hx : s.heap.get? a = some o) (hc : o.cls = .ref Cl) (hq : ∀ tk', Q (.bool ((Value.ref Cl :: bm).contains (.ref H))) { s with toks := tk' }) :
    wpAny (model prog w) A (call (.builtin "isinstance") [.ref a, .ref H]) Q E s :=
  call_isinstance (S := fun _ R s' => s' = s ∧ ∀ tk', R (.ok (.ret (.bool ((Value.ref Cl :: bm).contains (.ref H))))) { s with toks := tk' })
    (fun _ _ _ _ s' hs => by obtain ⟨rfl, hs⟩ := hs; exact isinstance_outer (isi_exc_ref X XH hx hc fun tk' => hs tk') (by intro e; cases e)) ⟨rfl, fun tk' => hq tk'⟩
theorem isi_call_ty {T : String} {Q : Value → Shared → Prop} (X : XC s.heap Cl bm) (hx : s.heap.get? a = some o) (hc : o.cls = .ref Cl) (hty : typeOf (.type T) = pure (.type "type")) (hb : bm.contains (.type T) = true) (hq : ∀ tk', Q (.bool true) { s with toks := tk' }) :
    wpAny (model prog w) A (call (.builtin "isinstance") [.ref a, .type T]) Q E s :=
  call_isinstance (S := fun _ R s' => s' = s ∧ ∀ tk', R (.ok (.ret (.bool true))) { s with toks := tk' })
    (fun _ _ _ _ s' hs => by obtain ⟨rfl, hs⟩ := hs; exact isinstance_outer (isi_exc_ty X hx hc hty hb fun tk' => hs tk') (by intro e; cases e)) ⟨rfl, fun tk' => hq tk'⟩
end
section
variable {C : Cx} {sc : Scope} {k : Nat} {p : Program}
/-- isinstance(e, K) of an exception that is held -/
def spIsX (e : Addr) (c : V) (b : Bool) : Spec := fun vs σ Q => vs = [.ref e, c] ∧ Q (.bool b) σ
theorem ok_isX {e Cc H : Addr} {o : Obj} {bm bmH : List Value} {b : Bool} (he : C.hB.get? e = some o) (hc : o.cls = .ref Cc) (X : XC C.hB Cc bm) (XH : XC C.hB H bmH) (hb : (Value.ref Cc :: bm).contains (.ref H) = b) : OpN C k (fun ws => PySem.call (.builtin "isinstance") ws) (spIsX e (.ref H) b) := by
  rintro A s σ vs ws Q P E ao R hv ⟨rfl, q⟩ hP
  obtain ⟨wa, wb, rfl, h1, h2⟩ := hv.inv2
  cases h1; cases h2
  refine isi_call_ref (X.keeps R.base) (XH.keeps R.base) (R.base _ _ he) hc fun tk' => ?_
  rw [hb]
  exact hP _ _ σ _ (.bool b) (R.tok _) Step.refl q
theorem ok_isXT {e Cc : Addr} {o : Obj} {bm : List Value} (he : C.hB.get? e = some o) (hc : o.cls = .ref Cc) (X : XC C.hB Cc bm) (hb : bm.contains (.type "ValueError") = true) : OpN C k (fun ws => PySem.call (.builtin "isinstance") ws) (spIsX e (.ty "ValueError") true) := by
  rintro A s σ vs ws Q P E ao R hv ⟨rfl, q⟩ hP
  obtain ⟨wa, wb, rfl, h1, h2⟩ := hv.inv2
  cases h1; cases h2
  refine isi_call_ty (X.keeps R.base) (R.base _ _ he) hc (by kernel_rfl) hb fun tk' => ?_
  exact hP _ _ σ _ (.bool true) (R.tok _) Step.refl q
theorem bb_ve : bootBuiltins (Str.ofString "ValueError") = some (.type "ValueError") := by decide +kernel
theorem HE.isX (G : Gl C p) {n K : String} {H : Addr} {e : Addr} {b : Bool} {np p1 p2 pos : Pos} (hop : OpN C k (fun ws => PySem.call (.builtin "isinstance") ws) (spIsX e (.ref H) b)) (hi : sc.names.lookup (Str.ofString "isinstance") = some .globalImplicit)
    (hn : sc.names.lookup (Str.ofString n) = some .local) (hnd : (Str.ofString n == ("__debug__" : Str)) = false) (hk : sc.names.lookup (Str.ofString K) = some .globalImplicit) (hkd : (Str.ofString K == ("__debug__" : Str)) = false) (hg : C.mg (Str.ofString K) = some (.ref H)) :
    HE C sc k (.Call (.Name (Str.ofString "isinstance") np) [.Name (Str.ofString n) p1, .Name (Str.ofString K) p2] [] pos) (eCall (spIsX e (.ref H) b) (lCons (eName n) (lCons (eVal (.ref H)) lNil))) :=
  HE.builtin G.ok hop hi (G.free _ (by decide)) (G.blt bb_isi (by decide)) rfl (HL.cons (HE.name hn hnd) (HL.cons (HE.glob G.ok (v := .ref H) hk hg (fun _ => .ref _) hkd) HL.nil rfl) rfl) rfl
theorem HE.isXT (G : Gl C p) {n : String} {e : Addr} {np p1 p2 pos : Pos} (hop : OpN C k (fun ws => PySem.call (.builtin "isinstance") ws) (spIsX e (.ty "ValueError") true)) (hi : sc.names.lookup (Str.ofString "isinstance") = some .globalImplicit)
    (hn : sc.names.lookup (Str.ofString n) = some .local) (hnd : (Str.ofString n == ("__debug__" : Str)) = false) (hk : sc.names.lookup (Str.ofString "ValueError") = some .globalImplicit) (hg : C.mg (Str.ofString "ValueError") = Option.none) :
    HE C sc k (.Call (.Name (Str.ofString "isinstance") np) [.Name (Str.ofString n) p1, .Name (Str.ofString "ValueError") p2] [] pos) (eCall (spIsX e (.ty "ValueError") true) (lCons (eName n) (lCons (eVal (.ty "ValueError")) lNil))) :=
  HE.builtin G.ok hop hi (G.free _ (by decide)) (G.blt bb_isi (by decide)) rfl (HL.cons (HE.name hn hnd) (HL.cons (HE.gty G.ok hk hg (G.blt bb_ve (by decide)) rfl) HL.nil rfl) rfl) rfl
@[simp] theorem isX_eq {e : Addr} {c : V} {b : Bool} {σ : View} {Q : V → View → Prop} : spIsX e c b [.ref e, c] σ Q = Q (.bool b) σ := propext ⟨fun h => h.2, fun h => ⟨rfl, h⟩⟩
theorem FnAtX.mk (G : Gl C p) (i n : Nat) {f : String} {xs : List String} {j : Nat} {spec : SpecX} {T : STX}
    (hm : (recsOf p)[i]? = some ⟨Str.ofString f, parsAt p n, bodyAt p n, scopeAt p n, posAt p n⟩)
    (hk : (scopeAt p n).kind = .function) (hfr : ((scopeAt p n).names.all fun q => q.2 != .free) = true) (hco : (scopeAt p n).isCoroutine = false) (hgen : (scopeAt p n).isGenerator = false)
    (hbind : ∀ (ws : List Value) (pm code doc : Value), ws.length = xs.length → bindArgs (docDef (Str.ofString f) (parsAt p n) (bodyAt p n) (scopeAt p n) pm code doc) ⟨ws, []⟩ = pure ((xs.map Str.ofString).zip ws))
    (hloc : (xs.all fun x => (scopeAt p n).names.lookup (Str.ofString x) == some .local || (scopeAt p n).names.lookup (Str.ofString x) == some .cell) = true)
    (hT : HSX C (scopeAt p n) j (bodyAt p n) T)
    (hspec : ∀ vs σ Q X, spec vs σ Q X → vs.length = xs.length ∧ T (bindM xs vs none') σ (fin Q) (fun c _ σ' => X c σ')) : FnAtX C j f spec := by
  obtain ⟨a, o, pm, code, doc, h1, h2, h3, h4⟩ := G.fn _ (List.mem_of_getElem? hm)
  refine ⟨a, o, _, h1, h2, h3, FnSoundX.mk G.ok (xs := xs) h2 h3 h4 rfl rfl rfl rfl rfl hk ?_ hco hgen (fun ws hw => hbind ws pm code doc hw) ?_ hT hspec⟩
  · intro q hq
    have := List.all_eq_true.mp hfr q hq
    simpa using this
  · intro x hx
    have := List.all_eq_true.mp hloc x hx
    simp only [Bool.or_eq_true, beq_iff_eq] at this
    exact this
def spLawX : SpecX := fun vs σ Q _ => vs = [.script] ∧ (∀ a, σ a = Option.none) ∧ ∀ σ', Q (.bool true) σ'
theorem law_endsX (hz : C.held = Option.none) {f : Addr} {j : Nat} {r : OpenLaw} {args : List WData} {cl : Str → Option Addr} {mean : ExcName → Option Value} (hf : FnSoundX C j f spLawX) (hj : j ≤ 100) (hg : C.s₁.gens = #[])
    (hn : ∀ cls, r.row.claim.raises args cls = false) (hp : r.row.claim.post args (.bool true) args = true) :
    codeAny (model C.prog C.w) callerA (.call (.ref f) ⟨[.ref C.aS], []⟩) (GoodWG r.row.claim cl mean args C.s₁) C.s₁ := by
  refine codeAny_mono (hf callerA C.s₁ (fun _ => Option.none) [.script] [.ref C.aS] (fun v σ => v = .bool true) (fun _ _ => False) (fun w s' => w = .bool true ∧ ∃ σ', RelG C σ' s') (fun _ _ => False) ⟨by rw [hz]; rfl, ?_, ?_⟩ ⟨[], rfl, fun y hy => by cases hy⟩ ⟨⟨_, _, _, rfl⟩, fun _ _ e => e, fun _ _ e => by (cases e), fun _ e => absurd rfl e⟩ (.cons .script .nil) ⟨rfl, fun _ => rfl, fun _ => rfl⟩ ?_ (fun _ _ _ _ _ _ _ h => h)) ?_
  · show 1 + claimMargin + 3 * (j + 1) + 3 < recursionLimit
    have : claimMargin = 300 := rfl
    have : recursionLimit = 1000 := rfl
    omega
  · show 4 + 10 * (j + 1) + 20 < cLine
    unfold cLine
    omega
  · intro v w σ' s' hv R' S' q
    subst q
    cases hv with | bool b => exact ⟨rfl, σ', R'⟩
  · intro res s' h
    cases res with
    | error e => exact h.elim
    | ok fl =>
      cases fl with
      | ret v =>
        obtain ⟨rfl, σ', R'⟩ := h
        obtain ⟨h₁, tk, d₁, e⟩ := R'.rest
        refine GoodW.toG ⟨.inl ⟨_, .bool true, [], rfl, hn, .bool true, hp, fun _ => ⟨List.nodup_nil, fun a h => by cases h⟩⟩, R'.base, ?_, ?_⟩
        · rw [e]
        · rw [e]; exact hg
      | _ => exact h.elim
end
end Mine


end
noncomputable section
set_option autoImplicit false
set_option linter.unusedVariables false
namespace Mine
open PySem PySem.W PyProof.Rows PySem.Calls
section
variable {C : Cx} {sc : Scope} {k : Nat}
def spCount : Spec
  | [.str x, .str y], σ, Q => Q (.int (Txt.count x y)) σ
  | _, _, _ => False
theorem ok_count : OpN C k (fun ws => PySem.call (.builtin "str.count") ws) spCount := by
  intro A s σ vs ws Q P E ao R hv q hP
  unfold spCount at q
  split at q
  · obtain ⟨wa, wb, rfl, h1, h2⟩ := hv.inv2
    cases h1; cases h2
    exact SC.count (hP _ _ σ _ (.int _ _) (R.tok _) Step.refl q)
  · exact q.elim
theorem HE.count {o : Expr} {apos pos : Pos} {es : List Expr} {To : ET} {L : LT} (ho : HE C sc k o To) (hl : HL C sc k es L) (hp : plainArgs es = true)
    (hbase : ∀ env, attributeBase o (Str.ofString "count") env (eval o env) = eval o env) (hline : (apos.endLine == pos.line) = true) (hfew : es.length < 30) : HE C sc k (.Call (.Attribute o (Str.ofString "count") apos) es [] pos) (eMeth tyStr spCount To L) :=
  HE.meth tyStr_ok F.plainAttrs_str F.slot_str_count F.type_str_count ok_count ho hl hp hbase hline hfew
@[simp] theorem count_str {x y : Str} {σ : View} {Q : V → View → Prop} : spCount [.str x, .str y] σ Q = Q (.int (Txt.count x y)) σ := rfl
end
def otIn (K : Frag) : List Value → Bool
  | [] => false
  | v :: r => (v :: r) == veBases || match v with
    | .ref A => (match K.lookup A with
      | some ⟨_, _, .cls cd, _⟩ => nsOkIn K cd.ns && lookNames.all (fun n => nsIn K cd.ns n == some none) && otIn K r
      | _ => false)
    | _ => false
theorem ot_of_in {K : Frag} {h : Heap} (X : K.In h) : ∀ {l : List Value}, otIn K l = true → OT h l
  | [], e => by cases e
  | v :: r, e => by
    unfold otIn at e
    rcases Bool.or_eq_true_iff.mp e with q | q
    · rw [beq_iff_eq.mp q]; exact .base
    · split at q
      · split at q
        · rename_i ho
          simp only [Bool.and_eq_true] at q
          refine .own (X _ _ ho) (.of_isNs (isNs_of_in X q.1.1)) (fun n hn => nsMap_none_of_in X q.1.1 ?_) (ot_of_in X q.2)
          exact beq_iff_eq.mp (List.all_eq_true.mp q.1.2 n hn)
        · cases q
      · cases q
def xcIn (K : Frag) (C : Addr) (bm : List Value) : Bool := match K.lookup C with
  | some ⟨.type "type", _, .cls cd, sl⟩ => (match sl.toList with
    | [_, _, _, _, some (.builtin n), _] => cd.mro == .ref C :: bm && n == "ValueError.__new__" && !cd.hasDel && otIn K bm && nsOkIn K cd.ns && lookNames.all (fun n => nsIn K cd.ns n == some none)
    | _ => false)
  | _ => false
theorem xc_of_in {K : Frag} {h : Heap} {C : Addr} {bm : List Value} (X : K.In h) (q : xcIn K C bm = true) : XC h C bm := by
  unfold xcIn at q
  split at q
  · rename_i dd cd sl ho
    split at q
    · rename_i k0 k1 k2 k3 n k5 hs
      simp only [Bool.and_eq_true, beq_iff_eq, Bool.not_eq_true'] at q
      obtain ⟨⟨⟨⟨⟨hm, rfl⟩, hdel⟩, ht⟩, hok⟩, hni⟩ := q
      obtain ⟨nm, bs, mro, ns, qn, hd, sn, sub, ab, col, del⟩ := cd
      dsimp only at hm hdel hok hni
      subst hm hdel
      have hsl : sl = #[k0, k1, k2, k3, some (.builtin "ValueError.__new__"), k5] := by
        obtain ⟨l⟩ := sl
        simp only at hs
        rw [hs]
      subst hsl
      exact ⟨ns, nm, qn, bs, hd, sn, sub, ab, col, dd, k0, k1, k2, k3, k5, _, X _ _ ho, .of_isNs (isNs_of_in X hok), fun n hn => nsMap_none_of_in X hok (beq_iff_eq.mp (List.all_eq_true.mp hni n hn)), ot_of_in X ht⟩
    · cases q
  · cases q
theorem XC.own {h : Heap} {Cl : Addr} {bm : List Value} {mg : Str → Option Value} {x : Str} (X : XC h Cl bm) (hg : mg x = some (.ref Cl)) : OwnCls x Cl veBases "ValueError.__new__" mg h := by
  obtain ⟨N, nm, q, bs, hdct, sn, sub, ab, col, dd, k0, k1, k2, k3, k5, mN, h1, h2, h3, h4⟩ := X
  exact ⟨hg, bm, N, nm, q, bs, hdct, sn, sub, ab, col, dd, k0, k1, k2, k3, k5, mN, h1, h2, h3 _ (.head _), h4.tail⟩
end Mine


end
noncomputable section
set_option autoImplicit false
set_option linter.unusedVariables false
namespace Mine
open PySem PySem.W PyProof.Rows PySem.Calls
def subX (c k : String) : Bool := c == k || k == "RoadError"
/-- the exception classes: those that are raised (cs), those that are asked for (ks) -/
structure XTab (C : Cx) (cs ks : List String) (ad : String → Addr) : Prop where
  at_ : ∀ k ∈ ks, C.mg (Str.ofString k) = some (.ref (ad k)) ∧ ∃ bm, XC C.hB (ad k) bm
  sub : ∀ c ∈ cs, ∃ bm, C.mg (Str.ofString c) = some (.ref (ad c)) ∧ XC C.hB (ad c) bm ∧ bm.contains (.type "ValueError") = true ∧ ∀ k ∈ ks, (Value.ref (ad c) :: bm).contains (.ref (ad k)) = subX c k
  ve : C.mg (Str.ofString "ValueError") = Option.none
section
variable {C : Cx} {sc : Scope} {k : Nat} {p : Program} {cs ks : List String} {ad : String → Addr}
theorem HSX1.raiseAt (G : Gl C p) (hz : C.held = Option.none) (Tb : XTab C cs ks ad) {c : String} (hc : c ∈ cs) {x : Str} {n : Nat} {np ap cpos pos : Pos} (hn : sc.names.lookup (Str.ofString c) = some .globalImplicit) (hdb : (Str.ofString c == ("__debug__" : Str)) = false) :
    HSX1 C sc k (.Raise (some (.Call (.Name (Str.ofString c) np) [.Constant (.str x) n ap] [] cpos)) Option.none pos) (xRaise c) := by
  obtain ⟨bm, h1, h2, _⟩ := Tb.sub c hc
  exact HSX1.raise G.ok hz (h2.own h1) hn hdb
theorem HSX1.tryAt (G : Gl C p) (hz : C.held = Option.none) (Tb : XTab C cs ks ad) {body : List Stmt} {H n : String} {b₀ : Stmt} {suite : List Stmt} {np hpos pos : Pos} {T : STX} {U : Addr → String → ST} (hb : HSX C sc k body T) (hH : H ∈ ks) (hsub : (cs.all fun c => subX c H) = true)
    (hn : sc.names.lookup (Str.ofString H) = some .globalImplicit) (hdb : (Str.ofString H == ("__debug__" : Str)) = false) (hvar : sc.names.lookup (Str.ofString n) = some .local)
    (hs : ∀ (e : Addr) (o : Obj) (vs : Array Value) (c : String), c ∈ cs → C.hB.get? e = Option.none → o.isFreed = false → o.cls = .ref (ad c) → o.data = .fields vs → vs[2]? = some .none → HS (C.hold e o) sc k (b₀ :: suite) (U e c)) :
    HSX1 C sc k (.Try body [.ExceptHandler (some (.Name (Str.ofString H) np)) (some (Str.ofString n)) (b₀ :: suite) hpos] [] [] pos) (xTry n cs T U) := by
  obtain ⟨h1, bmH, h2⟩ := Tb.at_ H hH
  refine HSX1.tryAs G.ok hz hb hn hdb h1 h2 hvar (fun c hc => ?_) fun e o vs c Cc hc hg hez hof hcls hd hv2 => ?_
  · obtain ⟨bm, h3, h4, _, h5⟩ := Tb.sub c hc
    exact ⟨ad c, bm, h3, h4, by rw [h5 H hH]; exact List.all_eq_true.mp hsub c hc⟩
  · obtain ⟨bm, h3, _⟩ := Tb.sub c hc
    rw [h3] at hg; cases hg
    exact hs e o vs c hc hez hof hcls hd hv2
theorem HE.isK (G : Gl C p) (Tb : XTab C cs ks ad) {e : Addr} {o : Obj} {vs : Array Value} {c n K : String} (hc : c ∈ cs) (hez : C.hB.get? e = Option.none) (hof : o.isFreed = false) (hcls : o.cls = .ref (ad c)) (hd : o.data = .fields vs) (h2 : vs[2]? = some .none) (hK : K ∈ ks) {np p1 p2 pos : Pos}
    (hi : sc.names.lookup (Str.ofString "isinstance") = some .globalImplicit) (hn : sc.names.lookup (Str.ofString n) = some .local) (hnd : (Str.ofString n == ("__debug__" : Str)) = false) (hk : sc.names.lookup (Str.ofString K) = some .globalImplicit) (hkd : (Str.ofString K == ("__debug__" : Str)) = false) :
    HE (C.hold e o) sc k (.Call (.Name (Str.ofString "isinstance") np) [.Name (Str.ofString n) p1, .Name (Str.ofString K) p2] [] pos) (eCall (spIsX e (.ref (ad K)) (subX c K)) (lCons (eName n) (lCons (eVal (.ref (ad K))) lNil))) := by
  obtain ⟨h1, bmH, h3⟩ := Tb.at_ K hK
  obtain ⟨bm, h4, h5, _, h6⟩ := Tb.sub c hc
  exact HE.isX (G.hold hez hof hd h2) (ok_isX (hold_at hez hof) hcls (h5.keeps (hold_keeps hez hof)) (h3.keeps (hold_keeps hez hof)) (h6 K hK)) hi hn hnd hk hkd h1
theorem HE.isV (G : Gl C p) (Tb : XTab C cs ks ad) {e : Addr} {o : Obj} {vs : Array Value} {c n : String} (hc : c ∈ cs) (hez : C.hB.get? e = Option.none) (hof : o.isFreed = false) (hcls : o.cls = .ref (ad c)) (hd : o.data = .fields vs) (h2 : vs[2]? = some .none) {np p1 p2 pos : Pos}
    (hi : sc.names.lookup (Str.ofString "isinstance") = some .globalImplicit) (hn : sc.names.lookup (Str.ofString n) = some .local) (hnd : (Str.ofString n == ("__debug__" : Str)) = false) (hk : sc.names.lookup (Str.ofString "ValueError") = some .globalImplicit) :
    HE (C.hold e o) sc k (.Call (.Name (Str.ofString "isinstance") np) [.Name (Str.ofString n) p1, .Name (Str.ofString "ValueError") p2] [] pos) (eCall (spIsX e (.ty "ValueError") true) (lCons (eName n) (lCons (eVal (.ty "ValueError")) lNil))) := by
  obtain ⟨bm, h4, h5, h6, _⟩ := Tb.sub c hc
  exact HE.isXT (G.hold hez hof hd h2) (ok_isXT (hold_at hez hof) hcls (h5.keeps (hold_keeps hez hof)) h6) hi hn hnd hk Tb.ve
end
/- equations -/
section
variable {m : Loc} {σ : View} {Q : Fl → Loc → View → Prop} {X : XT} {R : V → View → Prop} {Y : String → View → Prop}
@[simp] theorem xP_eq {T : ST} : xP T m σ Q X = T m σ Q := rfl
@[simp] theorem xRaise_eq {c : String} : xRaise c m σ Q X = X c m σ := rfl
@[simp] theorem xIf_eq {B : BT} {T U : STX} : xIf B T U m σ Q X = B m σ fun b σ' => if b then T m σ' Q X else U m σ' Q X := rfl
@[simp] theorem xFor_eq {g : Tgt} {I : IT} {T : STX} : xFor g I T m σ Q X = I m σ fun items inv σ' => xforL g inv T items m σ' Q X := rfl
@[simp] theorem xSet_eq {x : String} {T : ETX} : xSet x T m σ Q X = T m σ (fun v σ' => Q .next (put m x v) σ') fun c σ' => X c m σ' := rfl
@[simp] theorem xRet_eq {T : ETX} : xRet T m σ Q X = T m σ (fun v σ' => Q (.ret v) m σ') fun c σ' => X c m σ' := rfl
@[simp] theorem xCall_eq {spec : SpecX} {L : LT} : xCall spec L m σ R Y = L m σ fun vs σ' => spec vs σ' R Y := rfl
@[simp] theorem xPair_eq {T : ET} {U : ETX} : xPair T U m σ R Y = T m σ fun v σ₁ => U m σ₁ (fun u σ₂ => R (.tup [v, u]) σ₂) Y := rfl
@[simp] theorem xTry_eq {n : String} {cs : List String} {T : STX} {U : Addr → String → ST} : xTry n cs T U m σ Q X = T m σ Q fun c m' σ' => c ∈ cs ∧ ∀ e, σ' e = Option.none → U e c (put m' n (.ref e)) σ' fun f m'' σ'' => Q f (cut m'' n) σ'' := rfl
def xkont (U : STX) (Q : Fl → Loc → View → Prop) (X : XT) : Fl → Loc → View → Prop := fun f m σ => match f with
  | .next => U m σ Q X
  | f => Q f m σ
theorem xseq_eq (T U : STX) : xSeq T U m σ Q X = T m σ (xkont U Q X) X := rfl
@[simp] theorem xkont_next (U : STX) : xkont U Q X .next m σ = U m σ Q X := rfl
@[simp] theorem xkont_ret (U : STX) (v : V) : xkont U Q X (.ret v) m σ = Q (.ret v) m σ := rfl
@[simp] theorem iList_eq {T : ET} {J : List V → (View → Prop) → View → Prop} : iList T m σ J = T m σ fun v σ' => ∃ a xs, v = .ref a ∧ σ' a = some (.list xs) ∧ J xs (fun σ => σ a = some (.list xs)) σ' := rfl
end
/-- a loop that may raise -/
theorem xforL_inv {g : Tgt} {inv : View → Prop} {T : STX} (I : Nat → Loc → View → Prop) (hinv : ∀ i m σ, I i m σ → inv σ) (items : List V) {Q : Fl → Loc → View → Prop} {X : XT}
    (step : ∀ i v m σ Q', items[i]? = some v → I i m σ → (∀ m' σ', I (i + 1) m' σ' → Q' .next m' σ') → ∃ m', bindT g v m = some m' ∧ T m' σ Q' X)
    (done : ∀ m σ, I items.length m σ → Q .next m σ) : ∀ (m : Loc) (σ : View), I 0 m σ → xforL g inv T items m σ Q X := by
  have key : ∀ (n : Nat) (i : Nat) (m : Loc) (σ : View), n = items.length - i → i ≤ items.length → I i m σ → xforL g inv T (items.drop i) m σ Q X := by
    intro n
    induction n with
    | zero =>
      intro i m σ hn hi h
      have : i = items.length := by omega
      subst this
      rw [List.drop_length]
      exact ⟨hinv _ _ _ h, done m σ h⟩
    | succ n ih =>
      intro i m σ hn hi h
      have hlt : i < items.length := by omega
      rw [List.drop_eq_getElem_cons hlt]
      simp only [xforL]
      exact ⟨hinv _ _ _ h, step i _ m σ _ (List.getElem?_eq_getElem hlt) h fun m' σ' h' => ih (i + 1) m' σ' (by omega) (by omega) h'⟩
  intro m σ h
  have := key items.length 0 m σ (by omega) (by omega) h
  simpa using this
end Mine


end
noncomputable section
set_option autoImplicit false
namespace Mine
open PySem PySem.W PyProof.Rows PySem.Calls

def csX : List String := ["NoPath", "NoFile", "InTheWay"]
def ksX : List String := ["RoadError", "NoPath", "NoFile", "InTheWay", "NoClash", "Clashed", "NoVersion", "SameVersion"]
def ALS : Str := Str.ofString "abcdefghijklmnopqrstuvwxyzABCDEFGHIJKLMNOPQRSTUVWXYZ0123456789.-_"
def okPart (x : Str) : Bool := decide (x ≠ Str.ofString "." ∧ x ≠ Str.ofString ".." ∧ 1 ≤ x.length ∧ x.length ≤ 12) && (cl x).all fun c => Txt.contains ALS ⟨#[c]⟩
def okPath (x : Str) : Bool := decide ((Txt.split x (Str.ofString "/")).length ≤ 8) && (Txt.split x (Str.ofString "/")).all okPart
def signBy (k : Int) : Str := ⟨#[(cl ALS).getD (k % 65).toNat 0]⟩
/-- a tree of at most n files -/
structure Tr (n : Nat) (kvs : List (Str × V)) : Prop where
  len : kvs.length ≤ n
  key : ∀ q ∈ kvs, q.1.length ≤ 300
  ok : ∀ q ∈ kvs, okPath q.1 = true
  val : ∀ q ∈ kvs, ∃ y, q.2 = .str y
  nodup : (kvs.map (·.1)).Nodup
def keysOf (kvs : List (Str × V)) : List Str := kvs.map (·.1)
def isFree (ks : List Str) (x : Str) : Bool := ks.all fun y => !(Txt.startswith y (x ++ Str.ofString "/") || Txt.startswith x (y ++ Str.ofString "/"))
/-- what a deed comes to: the name of an error, or a tree -/
def outc (kvs : List (Str × V)) (cu : Bool) (x l : Str) : Sum String (List (Str × V)) :=
  if okPath x = false then .inl "NoPath" else if cu then (if x ∈ keysOf kvs then .inr (vout kvs x) else .inl "NoFile") else if isFree (keysOf kvs) x then .inr (vstored kvs x (.str l)) else .inl "InTheWay"
def deedOf (cu : Bool) (x l : Str) : V := if cu then .tup [.str (Str.ofString "cut"), .str x] else .tup [.str (Str.ofString "put"), .str x, .str l]

def sp_is_part (_ns : List Int) : Spec := fun vs σ Q => ∃ x, vs = [.str x] ∧ x.length ≤ 1000 ∧ Q (.bool (okPart x)) σ
def sp_is_path (_ns : List Int) : Spec := fun vs σ Q => ∃ x, vs = [.str x] ∧ x.length ≤ 1000 ∧ ∀ σ', Grow σ σ' → Q (.bool (okPath x)) σ'
def sp_is_beneath (_ns : List Int) : Spec := fun vs σ Q => ∃ x y, vs = [.str x, .str y] ∧ y.length ≤ 1000 ∧ Q (.bool (Txt.startswith x (y ++ Str.ofString "/"))) σ
def sp_done (_ns : List Int) : SpecX := fun vs σ Q X => ∃ a kvs ep cu x l, vs = [.ref a, deedOf cu x l] ∧ σ a = some (.dict kvs ep) ∧ Tr 300 kvs ∧ x.length ≤ 1000 ∧ match outc kvs cu x l with
  | .inl c => ∀ σ', Grow σ σ' → X c σ'
  | .inr k2 => ∀ b ep' σ', Grow σ σ' → σ b = Option.none → σ' b = some (.dict k2 ep') → Q (.ref b) σ'
def sp__law_cell_at (ns : List Int) : Spec := fun vs σ Q => ∃ k, vs = [.script, .int k] ∧ 0 ≤ k ∧ Q (.int (cell ns k)) σ
def sp__law_sign_by (_ns : List Int) : Spec := fun vs σ Q => ∃ k, vs = [.int k] ∧ Q (.str (signBy k)) σ
def sp__law_name_by (_ns : List Int) : Spec := fun vs σ Q => ∃ c s, vs = [.int c, .int s] ∧ ∀ (x : Str) σ', Grow σ σ' → okPart x = true → Q (.str x) σ'
def sp__law_path_by (_ns : List Int) : Spec := fun vs σ Q => ∃ c s, vs = [.int c, .int s] ∧ ∀ (x : Str) σ', Grow σ σ' → okPath x = true → x.length ≤ 200 → Q (.str x) σ'
def sp__law_line_by (_ns : List Int) : Spec := fun vs σ Q => ∃ c s, vs = [.int c, .int s] ∧ ∀ (x : Str) σ', Grow σ σ' → x.length ≤ 1000 → Q (.str x) σ'
def sp__law_is_free (_ns : List Int) : Spec := fun vs σ Q => ∃ a kvs ep x, vs = [.ref a, .str x] ∧ σ a = some (.dict kvs ep) ∧ (∀ q ∈ kvs, q.1.length ≤ 300) ∧ x.length ≤ 1000 ∧ Q (.bool (isFree (keysOf kvs) x)) σ
def sp__law_tree_by (_ns : List Int) : Spec := fun vs σ Q => ∃ s, vs = [.script, .int s] ∧ ∀ a kvs ep σ', Grow σ σ' → σ' a = some (.dict kvs ep) → Tr 180 kvs → Q (.ref a) σ'
def sp__law_told (_ns : List Int) : SpecX := fun vs σ Q _ => ∃ a kvs ep cu x l, vs = [.ref a, deedOf cu x l] ∧ σ a = some (.dict kvs ep) ∧ Tr 300 kvs ∧ x.length ≤ 1000 ∧ match outc kvs cu x l with
  | .inl c => ∀ σ', Grow σ σ' → Q (.tup [.str (Str.ofString c), .bool true]) σ'
  | .inr k2 => ∀ b ep' σ', Grow σ σ' → σ b = Option.none → σ' b = some (.dict k2 ep') → Q (.tup [.str (Str.ofString "made"), .ref b]) σ'
def sp__law_path_asked (ns : List Int) : Spec := fun vs σ Q => ∃ s a kvs ep, vs = [.script, .int s, .ref a] ∧ σ a = some (.dict kvs ep) ∧ Tr 300 kvs ∧ ∀ x σ', Grow σ σ' → x.length ≤ 900 → okPath x = !decide (cell ns 2 % 6 = 1) → Q (.str x) σ'
def sp_law (_ns : List Int) : SpecX := spLawX
end Mine


end
noncomputable section
set_option autoImplicit false
set_option maxRecDepth 100000
set_option maxHeartbeats 4000000
set_option linter.unusedVariables false
namespace Mine
open PySem PySem.W PyProof.Rows PySem.Calls

def T_is_part_1 (ns : List Int) : ST :=
  (sIf (tOr (tBool (eBin opEq0 (eName "text") (eVal (.str (Str.ofString "."))))) (tOr (tBool (eBin opEq0 (eName "text") (eVal (.str (Str.ofString ".."))))) (tOr (tNot (tCmp2 opLe opLe (eVal (.int 1)) (eCall (spLen ns) (lCons (eName "text") lNil)) (eVal (.int 12)))) tF))) (sSeq (sRet (eVal (.bool false)))
  sNil) sNil)
def T_is_part_2 (ns : List Int) : ST :=
  (sFor (.name "sign") (iOf ns (eName "text")) (sSeq (sIf (tBool (eBin opNotInS (eName "sign") (eVal (.str (Str.ofString "abcdefghijklmnopqrstuvwxyzABCDEFGHIJKLMNOPQRSTUVWXYZ0123456789.-_"))))) (sSeq (sRet (eVal (.bool false)))
  sNil) sNil)
  sNil))
def T_is_part_3 (ns : List Int) : ST :=
  (sRet (eVal (.bool true)))
def T_is_part (ns : List Int) : ST := (sSeq (T_is_part_1 ns) (sSeq (T_is_part_2 ns) (sSeq (T_is_part_3 ns) sNil)))
theorem b_is_part {C : Cx} (G : Gl C Hd.vw) (hz : C.held = none) (g_LONGEST_PART : GInt C "LONGEST_PART" 12) (g_SIGNS : GStr C "SIGNS" (Str.ofString "abcdefghijklmnopqrstuvwxyzABCDEFGHIJKLMNOPQRSTUVWXYZ0123456789.-_"))  : HS C (scopeAt Hd.vw 11) 0 (bodyAt Hd.vw 11) (T_is_part C.ns) :=
  (HS.cons (HS1.ite (HB.boolOp (HBs.or (HB.cmp ok_eq0 (HE.name rfl rfl) HE.str rfl) (HBs.or (HB.cmp ok_eq0 (HE.name rfl rfl) HE.str rfl) (HBs.or (HB.not (HB.cmp2 ok_le ok_le HE.int (HE.len G rfl (HL.cons (HE.name rfl rfl) HL.nil rfl) rfl) (HE.gint G.ok rfl g_LONGEST_PART rfl) rfl)) HBs.orNil)))) (HS.cons (HS1.ret HE.bool)
  HS.nil) HS.nil)
  (HS.cons (HS1.for (HT.name rfl) (HI.of G.ok hz (HE.name rfl rfl)) (HS.cons (HS1.ite (HB.cmp ok_notInS (HE.name rfl rfl) (HE.gstr G.ok rfl g_SIGNS rfl) rfl) (HS.cons (HS1.ret HE.bool)
  HS.nil) HS.nil)
  HS.nil) (fun _ _ => rfl))
  (HS.cons (HS1.ret HE.bool)
  HS.nil)))
theorem f_is_part {C : Cx} (G : Gl C Hd.vw) (hz : C.held = none) (g_LONGEST_PART : GInt C "LONGEST_PART" 12) (g_SIGNS : GStr C "SIGNS" (Str.ofString "abcdefghijklmnopqrstuvwxyzABCDEFGHIJKLMNOPQRSTUVWXYZ0123456789.-_"))  (hspec : ∀ vs σ Q, sp_is_part C.ns vs σ Q → vs.length = 1 ∧ T_is_part C.ns (bindM ["text"] vs none') σ (fin Q)) : FnAt C 0 "is_part" (sp_is_part C.ns) :=
  FnAt.mk (xs := ["text"]) G 0 11 rfl rfl rfl rfl rfl (fun ws pm code doc h => by
    obtain ⟨w0, rfl⟩ := len1 h
    rfl) rfl (b_is_part G hz g_LONGEST_PART g_SIGNS ) hspec
def T_is_path_1 (ns : List Int) : ST :=
  (sSet "parts" (eMeth tyStr spSplit (eName "text") (lCons (eVal (.str (Str.ofString "/"))) lNil)))
def T_is_path_2 (ns : List Int) : ST :=
  (sIf (tBool (eBin opGt (eCall (spLen ns) (lCons (eName "parts") lNil)) (eVal (.int 8)))) (sSeq (sRet (eVal (.bool false)))
  sNil) sNil)
def T_is_path_3 (ns : List Int) : ST :=
  (sFor (.name "part") (iOf ns (eName "parts")) (sSeq (sIf (tNot (tBool (eCall (sp_is_part ns) (lCons (eName "part") lNil)))) (sSeq (sRet (eVal (.bool false)))
  sNil) sNil)
  sNil))
def T_is_path_4 (ns : List Int) : ST :=
  (sRet (eVal (.bool true)))
def T_is_path (ns : List Int) : ST := (sSeq (T_is_path_1 ns) (sSeq (T_is_path_2 ns) (sSeq (T_is_path_3 ns) (sSeq (T_is_path_4 ns) sNil))))
theorem b_is_path {C : Cx} (G : Gl C Hd.vw) (hz : C.held = none) (g_MOST_PARTS : GInt C "MOST_PARTS" 8) (h_is_part : FnAt C 0 "is_part" (sp_is_part C.ns)) : HS C (scopeAt Hd.vw 12) 1 (bodyAt Hd.vw 12) (T_is_path C.ns) :=
  (HS.cons (HS1.set (.inl rfl) (HE.split (HE.name rfl rfl) (HL.cons HE.str HL.nil rfl) rfl (fun _ => rfl) rfl (by decide)) (fun _ _ => rfl))
  (HS.cons (HS1.ite (HB.cmp ok_gt (HE.len G rfl (HL.cons (HE.name rfl rfl) HL.nil rfl) rfl) (HE.gint G.ok rfl g_MOST_PARTS rfl) rfl) (HS.cons (HS1.ret HE.bool)
  HS.nil) HS.nil)
  (HS.cons (HS1.for (HT.name rfl) (HI.of G.ok hz (HE.name rfl rfl)) (HS.cons (HS1.ite (HB.not (HB.val (HE.callAt G h_is_part (by decide) rfl rfl (HL.cons (HE.name rfl rfl) HL.nil rfl) rfl) (fun _ _ => rfl))) (HS.cons (HS1.ret HE.bool)
  HS.nil) HS.nil)
  HS.nil) (fun _ _ => rfl))
  (HS.cons (HS1.ret HE.bool)
  HS.nil))))
theorem f_is_path {C : Cx} (G : Gl C Hd.vw) (hz : C.held = none) (g_MOST_PARTS : GInt C "MOST_PARTS" 8) (h_is_part : FnAt C 0 "is_part" (sp_is_part C.ns)) (hspec : ∀ vs σ Q, sp_is_path C.ns vs σ Q → vs.length = 1 ∧ T_is_path C.ns (bindM ["text"] vs none') σ (fin Q)) : FnAt C 1 "is_path" (sp_is_path C.ns) :=
  FnAt.mk (xs := ["text"]) G 1 12 rfl rfl rfl rfl rfl (fun ws pm code doc h => by
    obtain ⟨w0, rfl⟩ := len1 h
    rfl) rfl (b_is_path G hz g_MOST_PARTS h_is_part) hspec
def T_is_beneath_1 (ns : List Int) : ST :=
  (sRet (eMeth tyStr spStarts (eName "path") (lCons (eBin opAdd (eName "upper") (eVal (.str (Str.ofString "/")))) lNil)))
def T_is_beneath (ns : List Int) : ST := (sSeq (T_is_beneath_1 ns) sNil)
theorem b_is_beneath {C : Cx} (G : Gl C Hd.vw) (hz : C.held = none)   : HS C (scopeAt Hd.vw 13) 0 (bodyAt Hd.vw 13) (T_is_beneath C.ns) :=
  (HS.cons (HS1.ret (HE.starts (HE.name rfl rfl) (HL.cons (HE.bin ok_add (HE.name rfl rfl) HE.str) HL.nil rfl) rfl (fun _ => rfl) rfl (by decide)))
  HS.nil)
theorem f_is_beneath {C : Cx} (G : Gl C Hd.vw) (hz : C.held = none)   (hspec : ∀ vs σ Q, sp_is_beneath C.ns vs σ Q → vs.length = 2 ∧ T_is_beneath C.ns (bindM ["path", "upper"] vs none') σ (fin Q)) : FnAt C 0 "is_beneath" (sp_is_beneath C.ns) :=
  FnAt.mk (xs := ["path", "upper"]) G 2 13 rfl rfl rfl rfl rfl (fun ws pm code doc h => by
    obtain ⟨w0, w1, rfl⟩ := len2 h
    rfl) rfl (b_is_beneath G hz  ) hspec
def T_done_1 (ns : List Int) : STX :=
  (xP (sSet "path" (eBin (opItem ns) (eName "deed") (eVal (.int 1)))))
def T_done_2 (ns : List Int) : STX :=
  (xIf (tNot (tBool (eCall (sp_is_path ns) (lCons (eName "path") lNil)))) (xSeq (xRaise "NoPath")
  (xP sNil)) (xP sNil))
def T_done_3 (ns : List Int) : STX :=
  (xP (sSet "fresh" (eCall spDictC (lCons (eName "tree") lNil))))
def T_done_4 (ns : List Int) : STX :=
  (xIf (tBool (eBin opEq0 (eBin (opItem ns) (eName "deed") (eVal (.int 0))) (eVal (.str (Str.ofString "cut"))))) (xSeq (xIf (tBool (eBin opNotInD (eName "path") (eName "fresh"))) (xSeq (xRaise "NoFile")
  (xP sNil)) (xP sNil))
  (xP (sSeq (sExpr (eMeth tyDict spPop (eName "fresh") (lCons (eName "path") lNil)))
  (sSeq (sRet (eName "fresh"))
  sNil)))) (xP sNil))
def T_done_5 (ns : List Int) : STX :=
  (xFor (.name "other") (iOf ns (eName "tree")) (xSeq (xIf (tOr (tBool (eCall (sp_is_beneath ns) (lCons (eName "path") (lCons (eName "other") lNil)))) (tOr (tBool (eCall (sp_is_beneath ns) (lCons (eName "other") (lCons (eName "path") lNil)))) tF)) (xSeq (xRaise "InTheWay")
  (xP sNil)) (xP sNil))
  (xP sNil)))
def T_done_6 (ns : List Int) : ST :=
  (sSetItem setD (eBin (opItem ns) (eName "deed") (eVal (.int 2))) (eName "fresh") (eName "path"))
def T_done_7 (ns : List Int) : ST :=
  (sRet (eName "fresh"))
def T_done (ns : List Int) : STX := (xSeq (T_done_1 ns) (xSeq (T_done_2 ns) (xSeq (T_done_3 ns) (xSeq (T_done_4 ns) (xSeq (T_done_5 ns) (xP (sSeq (T_done_6 ns) (sSeq (T_done_7 ns) sNil))))))))
theorem b_done {C : Cx} (G : Gl C Hd.vw) (hz : C.held = none)  {ad : String → Addr} (Tb : XTab C csX ksX ad) (h_is_path : FnAt C 1 "is_path" (sp_is_path C.ns)) (h_is_beneath : FnAt C 0 "is_beneath" (sp_is_beneath C.ns)) : HSX C (scopeAt Hd.vw 14) 2 (bodyAt Hd.vw 14) (T_done C.ns) :=
  (HSX.cons (HSX1.plain (HS1.set (.inl rfl) (HE.item G (HE.name rfl rfl) HE.int rfl) (fun _ _ => rfl)))
  (HSX.cons (HSX1.ite (HB.not (HB.val (HE.callAt G h_is_path (by decide) rfl rfl (HL.cons (HE.name rfl rfl) HL.nil rfl) rfl) (fun _ _ => rfl))) (HSX.cons (HSX1.raiseAt G hz Tb (by decide) rfl rfl)
  (HSX.plain HS.nil)) (HSX.plain HS.nil))
  (HSX.cons (HSX1.plain (HS1.set (.inl rfl) (HE.dictC G rfl (HL.cons (HE.name rfl rfl) HL.nil rfl) rfl) (fun _ _ => rfl)))
  (HSX.cons (HSX1.ite (HB.cmp ok_eq0 (HE.item G (HE.name rfl rfl) HE.int rfl) HE.str rfl) (HSX.cons (HSX1.ite (HB.cmp (ok_notInD G.ok) (HE.name rfl rfl) (HE.name rfl rfl) rfl) (HSX.cons (HSX1.raiseAt G hz Tb (by decide) rfl rfl)
  (HSX.plain HS.nil)) (HSX.plain HS.nil))
  (HSX.plain (HS.cons (HS1.expr (HE.popD (HE.name rfl rfl) (HL.cons (HE.name rfl rfl) HL.nil rfl) rfl (fun _ => rfl) rfl (by decide)) (fun _ _ => rfl))
  (HS.cons (HS1.ret (HE.name rfl rfl))
  HS.nil)))) (HSX.plain HS.nil))
  (HSX.cons (HSX1.for (HT.name rfl) (HI.of G.ok hz (HE.name rfl rfl)) (HSX.cons (HSX1.ite (HB.boolOp (HBs.or (HB.val (HE.callAt G h_is_beneath (by decide) rfl rfl (HL.cons (HE.name rfl rfl) (HL.cons (HE.name rfl rfl) HL.nil rfl) rfl) rfl) (fun _ _ => rfl)) (HBs.or (HB.val (HE.callAt G h_is_beneath (by decide) rfl rfl (HL.cons (HE.name rfl rfl) (HL.cons (HE.name rfl rfl) HL.nil rfl) rfl) rfl) (fun _ _ => rfl)) HBs.orNil))) (HSX.cons (HSX1.raiseAt G hz Tb (by decide) rfl rfl)
  (HSX.plain HS.nil)) (HSX.plain HS.nil))
  (HSX.plain HS.nil)) (fun _ _ => rfl))
  (HSX.plain (HS.cons (HS1.setItem ok_setD (HE.item G (HE.name rfl rfl) HE.int rfl) (HE.name rfl rfl) (HE.name rfl rfl) (fun _ _ => rfl))
  (HS.cons (HS1.ret (HE.name rfl rfl))
  HS.nil))))))))
theorem f_done {C : Cx} (G : Gl C Hd.vw) (hz : C.held = none)  {ad : String → Addr} (Tb : XTab C csX ksX ad) (h_is_path : FnAt C 1 "is_path" (sp_is_path C.ns)) (h_is_beneath : FnAt C 0 "is_beneath" (sp_is_beneath C.ns)) (hspec : ∀ vs σ Q X, sp_done C.ns vs σ Q X → vs.length = 2 ∧ T_done C.ns (bindM ["tree", "deed"] vs none') σ (fin Q) (fun c _ σ' => X c σ')) : FnAtX C 2 "done" (sp_done C.ns) :=
  FnAtX.mk (xs := ["tree", "deed"]) G 3 14 rfl rfl rfl rfl rfl (fun ws pm code doc h => by
    obtain ⟨w0, w1, rfl⟩ := len2 h
    rfl) rfl (b_done G hz  Tb h_is_path h_is_beneath) hspec
def T__law_cell_at_1 (ns : List Int) : ST :=
  (sIf (tBool (eBin opLt (eName "_law_k") (eCall (spLen ns) (lCons (eName "_law_script") lNil)))) (sSeq (sRet (eBin (opItem ns) (eName "_law_script") (eName "_law_k")))
  sNil) sNil)
def T__law_cell_at_2 (ns : List Int) : ST :=
  (sRet (eVal (.int 0)))
def T__law_cell_at (ns : List Int) : ST := (sSeq (T__law_cell_at_1 ns) (sSeq (T__law_cell_at_2 ns) sNil))
theorem b__law_cell_at {C : Cx} (G : Gl C Hd.vw) (hz : C.held = none)   : HS C (scopeAt Hd.vw 15) 0 (bodyAt Hd.vw 15) (T__law_cell_at C.ns) :=
  (HS.cons (HS1.ite (HB.cmp ok_lt (HE.name rfl rfl) (HE.len G rfl (HL.cons (HE.name rfl rfl) HL.nil rfl) rfl) rfl) (HS.cons (HS1.ret (HE.item G (HE.name rfl rfl) (HE.name rfl rfl) rfl))
  HS.nil) HS.nil)
  (HS.cons (HS1.ret HE.int)
  HS.nil))
theorem f__law_cell_at {C : Cx} (G : Gl C Hd.vw) (hz : C.held = none)   (hspec : ∀ vs σ Q, sp__law_cell_at C.ns vs σ Q → vs.length = 2 ∧ T__law_cell_at C.ns (bindM ["_law_script", "_law_k"] vs none') σ (fin Q)) : FnAt C 0 "_law_cell_at" (sp__law_cell_at C.ns) :=
  FnAt.mk (xs := ["_law_script", "_law_k"]) G 4 15 rfl rfl rfl rfl rfl (fun ws pm code doc h => by
    obtain ⟨w0, w1, rfl⟩ := len2 h
    rfl) rfl (b__law_cell_at G hz  ) hspec
def T__law_sign_by_1 (ns : List Int) : ST :=
  (sRet (eBin (opItem ns) (eVal (.str (Str.ofString "abcdefghijklmnopqrstuvwxyzABCDEFGHIJKLMNOPQRSTUVWXYZ0123456789.-_"))) (eBin opMod (eName "_law_k") (eVal (.int 65)))))
def T__law_sign_by (ns : List Int) : ST := (sSeq (T__law_sign_by_1 ns) sNil)
theorem b__law_sign_by {C : Cx} (G : Gl C Hd.vw) (hz : C.held = none)   : HS C (scopeAt Hd.vw 16) 0 (bodyAt Hd.vw 16) (T__law_sign_by C.ns) :=
  (HS.cons (HS1.ret (HE.item G HE.str (HE.bin ok_mod (HE.name rfl rfl) HE.int) rfl))
  HS.nil)
theorem f__law_sign_by {C : Cx} (G : Gl C Hd.vw) (hz : C.held = none)   (hspec : ∀ vs σ Q, sp__law_sign_by C.ns vs σ Q → vs.length = 1 ∧ T__law_sign_by C.ns (bindM ["_law_k"] vs none') σ (fin Q)) : FnAt C 0 "_law_sign_by" (sp__law_sign_by C.ns) :=
  FnAt.mk (xs := ["_law_k"]) G 5 16 rfl rfl rfl rfl rfl (fun ws pm code doc h => by
    obtain ⟨w0, rfl⟩ := len1 h
    rfl) rfl (b__law_sign_by G hz  ) hspec
def T__law_name_by_1 (ns : List Int) : ST :=
  (sSet "_law_size" (eVal (.int 1)))
def T__law_name_by_2 (ns : List Int) : ST :=
  (sIf (tBool (eBin opEq0 (eBin opMod (eBin opDiv (eName "_law_shift") (eVal (.int 65))) (eVal (.int 3))) (eVal (.int 1)))) (sSeq (sSet "_law_size" (eBin opAdd (eVal (.int 1)) (eBin opMod (eBin opDiv (eName "_law_shift") (eVal (.int 195))) (eVal (.int 12)))))
  sNil) sNil)
def T__law_name_by_3 (ns : List Int) : ST :=
  (sSet "_law_way" (eBin opMod (eBin opDiv (eName "_law_shift") (eVal (.int 5))) (eVal (.int 4))))
def T__law_name_by_4 (ns : List Int) : ST :=
  (sSet "_law_rest" (eComp ["_law_shift", "_law_k", "_law_way"] (.name "_law_j") (iRange (lCons (eVal (.int 12)) lNil)) tT (eCall (sp__law_sign_by ns) (lCons (eBin opAdd (eBin opAdd (eBin opDiv (eName "_law_shift") (eVal (.int 195))) (eBin opMul (eVal (.int 7)) (eName "_law_j"))) (eBin opMul (eName "_law_k") (eCall spInt (lCons (eBin opEq0 (eName "_law_way") (eVal (.int 0))) lNil)))) lNil))))
def T__law_name_by_5 (ns : List Int) : ST :=
  (sSet "_law_at" (eBin opMul (eBin opMod (eBin opDiv (eName "_law_shift") (eVal (.int 20))) (eName "_law_size")) (eCall spInt (lCons (eBin opEq0 (eName "_law_way") (eVal (.int 1))) lNil))))
def T__law_name_by_6 (ns : List Int) : ST :=
  (sSet "_law_told_here" (eCall (sp__law_sign_by ns) (lCons (eBin opAdd (eName "_law_shift") (eBin opMul (eName "_law_k") (eBin (opItem ns) (eList (lCons (eVal (.int 1)) (lCons (eVal (.int 26)) lNil))) (eCall spInt (lCons (eBin opEq0 (eName "_law_way") (eVal (.int 3))) lNil))))) lNil)))
def T__law_name_by_7 (ns : List Int) : ST :=
  (sSet "_law_name" (eBin opAdd (eBin opAdd (eMeth tyStr spJoin (eVal (.str (Str.ofString ""))) (lCons (eCut ns (eName "_law_rest") pNone (pSome (eName "_law_at"))) lNil)) (eName "_law_told_here")) (eMeth tyStr spJoin (eVal (.str (Str.ofString ""))) (lCons (eCut ns (eName "_law_rest") (pSome (eName "_law_at")) (pSome (eBin opSub (eName "_law_size") (eVal (.int 1))))) lNil))))
def T__law_name_by_8 (ns : List Int) : ST :=
  (sIf (tBool (eBin opEq0 (eName "_law_way") (eVal (.int 2)))) (sSeq (sSet "_law_name" (eMeth tyStr spJoin (eVal (.str (Str.ofString ""))) (lCons (eCut ns (eName "_law_rest") pNone (pSome (eBin opAdd (eVal (.int 1)) (eBin opMod (eBin opAdd (eBin opDiv (eName "_law_shift") (eVal (.int 65))) (eName "_law_k")) (eVal (.int 12)))))) lNil)))
  sNil) sNil)
def T__law_name_by_9 (ns : List Int) : ST :=
  (sIf (tOr (tBool (eBin opEq0 (eName "_law_name") (eVal (.str (Str.ofString "."))))) (tOr (tBool (eBin opEq0 (eName "_law_name") (eVal (.str (Str.ofString ".."))))) tF)) (sSeq (sRet (eVal (.str (Str.ofString "0x"))))
  sNil) sNil)
def T__law_name_by_10 (ns : List Int) : ST :=
  (sRet (eName "_law_name"))
def T__law_name_by (ns : List Int) : ST := (sSeq (T__law_name_by_1 ns) (sSeq (T__law_name_by_2 ns) (sSeq (T__law_name_by_3 ns) (sSeq (T__law_name_by_4 ns) (sSeq (T__law_name_by_5 ns) (sSeq (T__law_name_by_6 ns) (sSeq (T__law_name_by_7 ns) (sSeq (T__law_name_by_8 ns) (sSeq (T__law_name_by_9 ns) (sSeq (T__law_name_by_10 ns) sNil))))))))))
theorem b__law_name_by {C : Cx} (G : Gl C Hd.vw) (hz : C.held = none)  (h__law_sign_by : FnAt C 0 "_law_sign_by" (sp__law_sign_by C.ns)) : HS C (scopeAt Hd.vw 17) 1 (bodyAt Hd.vw 17) (T__law_name_by C.ns) :=
  (HS.cons (HS1.set (.inl rfl) HE.int (fun _ _ => rfl))
  (HS.cons (HS1.ite (HB.cmp ok_eq0 (HE.bin ok_mod (HE.bin ok_div (HE.cell rfl rfl) HE.int) HE.int) HE.int rfl) (HS.cons (HS1.set (.inl rfl) (HE.bin ok_add HE.int (HE.bin ok_mod (HE.bin ok_div (HE.cell rfl rfl) HE.int) HE.int)) (fun _ _ => rfl))
  HS.nil) HS.nil)
  (HS.cons (HS1.set (.inr rfl) (HE.bin ok_mod (HE.bin ok_div (HE.cell rfl rfl) HE.int) HE.int) (fun _ _ => rfl))
  (HS.cons (HS1.setComp (CompOk.of rfl) (HI.rng G hz rfl (HL.cons HE.int HL.nil rfl) rfl) (HT.name rfl) HTs.nil (HE.callAt G h__law_sign_by (by decide) rfl rfl (HL.cons (HE.bin ok_add (HE.bin ok_add (HE.bin ok_div (HE.cell rfl rfl) HE.int) (HE.bin ok_mul HE.int (HE.name rfl rfl))) (HE.bin ok_mul (HE.cell rfl rfl) (HE.intC G rfl (HL.cons (HE.cmp ok_eq0 (HE.cell rfl rfl) HE.int rfl) HL.nil rfl) rfl))) HL.nil rfl) rfl) (fun _ _ => rfl) rfl (swaps_local rfl rfl rfl))
  (HS.cons (HS1.set (.inl rfl) (HE.bin ok_mul (HE.bin ok_mod (HE.bin ok_div (HE.cell rfl rfl) HE.int) (HE.name rfl rfl)) (HE.intC G rfl (HL.cons (HE.cmp ok_eq0 (HE.cell rfl rfl) HE.int rfl) HL.nil rfl) rfl)) (fun _ _ => rfl))
  (HS.cons (HS1.set (.inl rfl) (HE.callAt G h__law_sign_by (by decide) rfl rfl (HL.cons (HE.bin ok_add (HE.cell rfl rfl) (HE.bin ok_mul (HE.cell rfl rfl) (HE.item G (HE.list (HL.cons HE.int (HL.cons HE.int HL.nil rfl) rfl)) (HE.intC G rfl (HL.cons (HE.cmp ok_eq0 (HE.cell rfl rfl) HE.int rfl) HL.nil rfl) rfl) rfl))) HL.nil rfl) rfl) (fun _ _ => rfl))
  (HS.cons (HS1.set (.inl rfl) (HE.bin ok_add (HE.bin ok_add (HE.join HE.str (HL.cons (HE.cut G.ok (HE.name rfl rfl) HP.none (HP.some (HE.name rfl rfl))) HL.nil rfl) rfl (fun _ => rfl) rfl (by decide)) (HE.name rfl rfl)) (HE.join HE.str (HL.cons (HE.cut G.ok (HE.name rfl rfl) (HP.some (HE.name rfl rfl)) (HP.some (HE.bin ok_sub (HE.name rfl rfl) HE.int))) HL.nil rfl) rfl (fun _ => rfl) rfl (by decide))) (fun _ _ => rfl))
  (HS.cons (HS1.ite (HB.cmp ok_eq0 (HE.cell rfl rfl) HE.int rfl) (HS.cons (HS1.set (.inl rfl) (HE.join HE.str (HL.cons (HE.cut G.ok (HE.name rfl rfl) HP.none (HP.some (HE.bin ok_add HE.int (HE.bin ok_mod (HE.bin ok_add (HE.bin ok_div (HE.cell rfl rfl) HE.int) (HE.cell rfl rfl)) HE.int)))) HL.nil rfl) rfl (fun _ => rfl) rfl (by decide)) (fun _ _ => rfl))
  HS.nil) HS.nil)
  (HS.cons (HS1.ite (HB.boolOp (HBs.or (HB.cmp ok_eq0 (HE.name rfl rfl) HE.str rfl) (HBs.or (HB.cmp ok_eq0 (HE.name rfl rfl) HE.str rfl) HBs.orNil))) (HS.cons (HS1.ret HE.str)
  HS.nil) HS.nil)
  (HS.cons (HS1.ret (HE.name rfl rfl))
  HS.nil))))))))))
theorem f__law_name_by {C : Cx} (G : Gl C Hd.vw) (hz : C.held = none)  (h__law_sign_by : FnAt C 0 "_law_sign_by" (sp__law_sign_by C.ns)) (hspec : ∀ vs σ Q, sp__law_name_by C.ns vs σ Q → vs.length = 2 ∧ T__law_name_by C.ns (bindM ["_law_k", "_law_shift"] vs none') σ (fin Q)) : FnAt C 1 "_law_name_by" (sp__law_name_by C.ns) :=
  FnAt.mk (xs := ["_law_k", "_law_shift"]) G 6 17 rfl rfl rfl rfl rfl (fun ws pm code doc h => by
    obtain ⟨w0, w1, rfl⟩ := len2 h
    rfl) rfl (b__law_name_by G hz  h__law_sign_by) hspec
def T__law_path_by_1 (ns : List Int) : ST :=
  (sSet "_law_depth" (eBin (opItem ns) (eList (lCons (eVal (.int 1)) (lCons (eVal (.int 1)) (lCons (eVal (.int 2)) (lCons (eVal (.int 2)) (lCons (eVal (.int 3)) lNil)))))) (eBin opMod (eName "_law_cell") (eVal (.int 5)))))
def T__law_path_by_2 (ns : List Int) : ST :=
  (sSet "_law_parts" (eComp ["_law_cell", "_law_shift"] (.name "_law_j") (iRange (lCons (eName "_law_depth") lNil)) tT (eCall (sp__law_name_by ns) (lCons (eBin opMod (eBin opDiv (eBin opDiv (eName "_law_cell") (eVal (.int 5))) (eBin (opItem ns) (eList (lCons (eVal (.int 1)) (lCons (eVal (.int 3)) (lCons (eVal (.int 9)) lNil)))) (eName "_law_j"))) (eVal (.int 3))) (lCons (eName "_law_shift") lNil)))))
def T__law_path_by_3 (ns : List Int) : ST :=
  (sIf (tBool (eBin opEq0 (eBin opMod (eName "_law_shift") (eVal (.int 7))) (eVal (.int 3)))) (sSeq (sSet "_law_ahead" (eComp ["_law_shift"] (.name "_law_j") (iRange (lCons (eBin opAdd (eVal (.int 1)) (eBin opMod (eBin opDiv (eName "_law_shift") (eVal (.int 7))) (eVal (.int 5)))) lNil)) tT (eCall (sp__law_name_by ns) (lCons (eBin opAdd (eVal (.int 3)) (eName "_law_j")) (lCons (eName "_law_shift") lNil)))))
  (sSeq (sSet "_law_parts" (eBin opAdd (eName "_law_ahead") (eName "_law_parts")))
  (sSeq (sIf (tBool (eBin opEq0 (eBin opMod (eName "_law_cell") (eVal (.int 13))) (eVal (.int 6)))) (sSeq (sSet "_law_parts" (eCut ns (eName "_law_parts") pNone (pSome (eBin opAdd (eVal (.int 1)) (eBin opMod (eBin opDiv (eName "_law_cell") (eVal (.int 13))) (eCall (spLen ns) (lCons (eName "_law_parts") lNil)))))))
  sNil) sNil)
  sNil))) sNil)
def T__law_path_by_4 (ns : List Int) : ST :=
  (sRet (eMeth tyStr spJoin (eVal (.str (Str.ofString "/"))) (lCons (eName "_law_parts") lNil)))
def T__law_path_by (ns : List Int) : ST := (sSeq (T__law_path_by_1 ns) (sSeq (T__law_path_by_2 ns) (sSeq (T__law_path_by_3 ns) (sSeq (T__law_path_by_4 ns) sNil))))
theorem b__law_path_by {C : Cx} (G : Gl C Hd.vw) (hz : C.held = none)  (h__law_name_by : FnAt C 1 "_law_name_by" (sp__law_name_by C.ns)) : HS C (scopeAt Hd.vw 18) 2 (bodyAt Hd.vw 18) (T__law_path_by C.ns) :=
  (HS.cons (HS1.set (.inl rfl) (HE.item G (HE.list (HL.cons HE.int (HL.cons HE.int (HL.cons HE.int (HL.cons HE.int (HL.cons HE.int HL.nil rfl) rfl) rfl) rfl) rfl)) (HE.bin ok_mod (HE.cell rfl rfl) HE.int) rfl) (fun _ _ => rfl))
  (HS.cons (HS1.setComp (CompOk.of rfl) (HI.rng G hz rfl (HL.cons (HE.name rfl rfl) HL.nil rfl) rfl) (HT.name rfl) HTs.nil (HE.callAt G h__law_name_by (by decide) rfl rfl (HL.cons (HE.bin ok_mod (HE.bin ok_div (HE.bin ok_div (HE.cell rfl rfl) HE.int) (HE.item G (HE.list (HL.cons HE.int (HL.cons HE.int (HL.cons HE.int HL.nil rfl) rfl) rfl)) (HE.name rfl rfl) rfl)) HE.int) (HL.cons (HE.cell rfl rfl) HL.nil rfl) rfl) rfl) (fun _ _ => rfl) rfl (swaps_local rfl rfl rfl))
  (HS.cons (HS1.ite (HB.cmp ok_eq0 (HE.bin ok_mod (HE.cell rfl rfl) HE.int) HE.int rfl) (HS.cons (HS1.setComp (CompOk.of rfl) (HI.rng G hz rfl (HL.cons (HE.bin ok_add HE.int (HE.bin ok_mod (HE.bin ok_div (HE.cell rfl rfl) HE.int) HE.int)) HL.nil rfl) rfl) (HT.name rfl) HTs.nil (HE.callAt G h__law_name_by (by decide) rfl rfl (HL.cons (HE.bin ok_add HE.int (HE.name rfl rfl)) (HL.cons (HE.cell rfl rfl) HL.nil rfl) rfl) rfl) (fun _ _ => rfl) rfl (swaps_local rfl rfl rfl))
  (HS.cons (HS1.set (.inl rfl) (HE.bin ok_add (HE.name rfl rfl) (HE.name rfl rfl)) (fun _ _ => rfl))
  (HS.cons (HS1.ite (HB.cmp ok_eq0 (HE.bin ok_mod (HE.cell rfl rfl) HE.int) HE.int rfl) (HS.cons (HS1.set (.inl rfl) (HE.cut G.ok (HE.name rfl rfl) HP.none (HP.some (HE.bin ok_add HE.int (HE.bin ok_mod (HE.bin ok_div (HE.cell rfl rfl) HE.int) (HE.len G rfl (HL.cons (HE.name rfl rfl) HL.nil rfl) rfl))))) (fun _ _ => rfl))
  HS.nil) HS.nil)
  HS.nil))) HS.nil)
  (HS.cons (HS1.ret (HE.join HE.str (HL.cons (HE.name rfl rfl) HL.nil rfl) rfl (fun _ => rfl) rfl (by decide)))
  HS.nil))))
theorem f__law_path_by {C : Cx} (G : Gl C Hd.vw) (hz : C.held = none)  (h__law_name_by : FnAt C 1 "_law_name_by" (sp__law_name_by C.ns)) (hspec : ∀ vs σ Q, sp__law_path_by C.ns vs σ Q → vs.length = 2 ∧ T__law_path_by C.ns (bindM ["_law_cell", "_law_shift"] vs none') σ (fin Q)) : FnAt C 2 "_law_path_by" (sp__law_path_by C.ns) :=
  FnAt.mk (xs := ["_law_cell", "_law_shift"]) G 7 18 rfl rfl rfl rfl rfl (fun ws pm code doc h => by
    obtain ⟨w0, w1, rfl⟩ := len2 h
    rfl) rfl (b__law_path_by G hz  h__law_name_by) hspec
def T__law_line_by_1 (ns : List Int) : ST :=
  (sSet "_law_some" (eVal (.str (Str.ofString " !\"#$&'()*+,-./0123456789:;<=>?@ABCDEFGHIJKLMNOPQRSTUVWXYZ[\\]^_`"))))
def T__law_line_by_2 (ns : List Int) : ST :=
  (sSet "_law_some" (eBin opAdd (eName "_law_some") (eVal (.str (Str.ofString "abcdefghijklmnopqrstuvwxyz{|}~\n\t")))))
def T__law_line_by_3 (ns : List Int) : ST :=
  (sSet "_law_long" (eBin opAdd (eVal (.int 3)) (eBin opMod (eName "_law_shift") (eVal (.int 60)))))
def T__law_line_by_4 (ns : List Int) : ST :=
  (sIf (tBool (eBin opEq0 (eBin opMod (eBin opDiv (eName "_law_shift") (eVal (.int 60))) (eVal (.int 4))) (eVal (.int 3)))) (sSeq (sSet "_law_long" (eBin opAdd (eVal (.int 3)) (eBin opMod (eBin opDiv (eName "_law_shift") (eVal (.int 240))) (eVal (.int 600)))))
  sNil) sNil)
def T__law_line_by_5 (ns : List Int) : ST :=
  (sRet (eMeth tyStr spJoin (eVal (.str (Str.ofString ""))) (lCons (eComp ["_law_some", "_law_shift", "_law_k"] (.name "_law_j") (iRange (lCons (eBin (opItem ns) (eList (lCons (eVal (.int 0)) (lCons (eVal (.int 1)) (lCons (eVal (.int 2)) (lCons (eName "_law_long") lNil))))) (eBin opMod (eName "_law_k") (eVal (.int 4)))) lNil)) tT (eBin (opItem ns) (eName "_law_some") (eBin opMod (eBin opAdd (eBin opAdd (eName "_law_shift") (eBin opMul (eVal (.int 5)) (eName "_law_k"))) (eName "_law_j")) (eVal (.int 96))))) lNil)))
def T__law_line_by (ns : List Int) : ST := (sSeq (T__law_line_by_1 ns) (sSeq (T__law_line_by_2 ns) (sSeq (T__law_line_by_3 ns) (sSeq (T__law_line_by_4 ns) (sSeq (T__law_line_by_5 ns) sNil)))))
theorem b__law_line_by {C : Cx} (G : Gl C Hd.vw) (hz : C.held = none)   : HS C (scopeAt Hd.vw 19) 0 (bodyAt Hd.vw 19) (T__law_line_by C.ns) :=
  (HS.cons (HS1.set (.inr rfl) HE.str (fun _ _ => rfl))
  (HS.cons (HS1.set (.inr rfl) (HE.bin ok_add (HE.cell rfl rfl) HE.str) (fun _ _ => rfl))
  (HS.cons (HS1.set (.inl rfl) (HE.bin ok_add HE.int (HE.bin ok_mod (HE.cell rfl rfl) HE.int)) (fun _ _ => rfl))
  (HS.cons (HS1.ite (HB.cmp ok_eq0 (HE.bin ok_mod (HE.bin ok_div (HE.cell rfl rfl) HE.int) HE.int) HE.int rfl) (HS.cons (HS1.set (.inl rfl) (HE.bin ok_add HE.int (HE.bin ok_mod (HE.bin ok_div (HE.cell rfl rfl) HE.int) HE.int)) (fun _ _ => rfl))
  HS.nil) HS.nil)
  (HS.cons (HS1.ret (HE.join HE.str (HL.cons (HE.comp (CompOk.of rfl) (HI.rng G hz rfl (HL.cons (HE.item G (HE.list (HL.cons HE.int (HL.cons HE.int (HL.cons HE.int (HL.cons (HE.name rfl rfl) HL.nil rfl) rfl) rfl) rfl)) (HE.bin ok_mod (HE.cell rfl rfl) HE.int) rfl) HL.nil rfl) rfl) (HT.name rfl) HTs.nil (HE.item G (HE.cell rfl rfl) (HE.bin ok_mod (HE.bin ok_add (HE.bin ok_add (HE.cell rfl rfl) (HE.bin ok_mul HE.int (HE.cell rfl rfl))) (HE.name rfl rfl)) HE.int) rfl) (fun _ _ => rfl)) HL.nil rfl) rfl (fun _ => rfl) rfl (by decide)))
  HS.nil)))))
theorem f__law_line_by {C : Cx} (G : Gl C Hd.vw) (hz : C.held = none)   (hspec : ∀ vs σ Q, sp__law_line_by C.ns vs σ Q → vs.length = 2 ∧ T__law_line_by C.ns (bindM ["_law_k", "_law_shift"] vs none') σ (fin Q)) : FnAt C 0 "_law_line_by" (sp__law_line_by C.ns) :=
  FnAt.mk (xs := ["_law_k", "_law_shift"]) G 8 19 rfl rfl rfl rfl rfl (fun ws pm code doc h => by
    obtain ⟨w0, w1, rfl⟩ := len2 h
    rfl) rfl (b__law_line_by G hz  ) hspec
def T__law_is_free_1 (ns : List Int) : ST :=
  (sFor (.name "_law_other") (iOf ns (eName "_law_tree")) (sSeq (sIf (tOr (tBool (eMeth tyStr spStarts (eName "_law_other") (lCons (eBin opAdd (eName "_law_path") (eVal (.str (Str.ofString "/")))) lNil))) (tOr (tBool (eMeth tyStr spStarts (eName "_law_path") (lCons (eBin opAdd (eName "_law_other") (eVal (.str (Str.ofString "/")))) lNil))) tF)) (sSeq (sRet (eVal (.bool false)))
  sNil) sNil)
  sNil))
def T__law_is_free_2 (ns : List Int) : ST :=
  (sRet (eVal (.bool true)))
def T__law_is_free (ns : List Int) : ST := (sSeq (T__law_is_free_1 ns) (sSeq (T__law_is_free_2 ns) sNil))
theorem b__law_is_free {C : Cx} (G : Gl C Hd.vw) (hz : C.held = none)   : HS C (scopeAt Hd.vw 20) 0 (bodyAt Hd.vw 20) (T__law_is_free C.ns) :=
  (HS.cons (HS1.for (HT.name rfl) (HI.of G.ok hz (HE.name rfl rfl)) (HS.cons (HS1.ite (HB.boolOp (HBs.or (HB.val (HE.starts (HE.name rfl rfl) (HL.cons (HE.bin ok_add (HE.name rfl rfl) HE.str) HL.nil rfl) rfl (fun _ => rfl) rfl (by decide)) (fun _ _ => rfl)) (HBs.or (HB.val (HE.starts (HE.name rfl rfl) (HL.cons (HE.bin ok_add (HE.name rfl rfl) HE.str) HL.nil rfl) rfl (fun _ => rfl) rfl (by decide)) (fun _ _ => rfl)) HBs.orNil))) (HS.cons (HS1.ret HE.bool)
  HS.nil) HS.nil)
  HS.nil) (fun _ _ => rfl))
  (HS.cons (HS1.ret HE.bool)
  HS.nil))
theorem f__law_is_free {C : Cx} (G : Gl C Hd.vw) (hz : C.held = none)   (hspec : ∀ vs σ Q, sp__law_is_free C.ns vs σ Q → vs.length = 2 ∧ T__law_is_free C.ns (bindM ["_law_tree", "_law_path"] vs none') σ (fin Q)) : FnAt C 0 "_law_is_free" (sp__law_is_free C.ns) :=
  FnAt.mk (xs := ["_law_tree", "_law_path"]) G 9 20 rfl rfl rfl rfl rfl (fun ws pm code doc h => by
    obtain ⟨w0, w1, rfl⟩ := len2 h
    rfl) rfl (b__law_is_free G hz  ) hspec
def T__law_tree_by_1 (ns : List Int) : ST :=
  (sSet "_law_tree" eDict0)
def T__law_tree_by_2 (ns : List Int) : ST :=
  (sFor (.name "_law_k") (iRange (lCons (eBin opMod (eCall (sp__law_cell_at ns) (lCons (eName "_law_script") (lCons (eVal (.int 1)) lNil))) (eVal (.int 8))) lNil)) (sSeq (sSet "_law_cell" (eCall (sp__law_cell_at ns) (lCons (eName "_law_script") (lCons (eBin opAdd (eVal (.int 4)) (eName "_law_k")) lNil))))
  (sSeq (sSet "_law_path" (eCall (sp__law_path_by ns) (lCons (eName "_law_cell") (lCons (eName "_law_shift") lNil))))
  (sSeq (sIf (tBool (eCall (sp__law_is_free ns) (lCons (eName "_law_tree") (lCons (eName "_law_path") lNil)))) (sSeq (sSetItem setD (eCall (sp__law_line_by ns) (lCons (eBin opDiv (eName "_law_cell") (eVal (.int 135))) (lCons (eName "_law_shift") lNil))) (eName "_law_tree") (eName "_law_path"))
  sNil) sNil)
  sNil))))
def T__law_tree_by_3 (ns : List Int) : ST :=
  (sSet "_law_more" (eBin opMod (eBin opDiv (eCall (sp__law_cell_at ns) (lCons (eName "_law_script") (lCons (eVal (.int 1)) lNil))) (eVal (.int 8))) (eVal (.int 16))))
def T__law_tree_by_4 (ns : List Int) : ST :=
  (sSet "_law_many" (eVal (.int 0)))
def T__law_tree_by_5 (ns : List Int) : ST :=
  (sIf (tOr (tBool (eBin opEq0 (eName "_law_more") (eVal (.int 1)))) (tOr (tBool (eBin opEq0 (eName "_law_more") (eVal (.int 9)))) tF)) (sSeq (sSet "_law_many" (eVal (.int 60)))
  sNil) sNil)
def T__law_tree_by_6 (ns : List Int) : ST :=
  (sIf (tBool (eBin opEq0 (eName "_law_more") (eVal (.int 4)))) (sSeq (sSet "_law_many" (eVal (.int 170)))
  sNil) sNil)
def T__law_tree_by_7 (ns : List Int) : ST :=
  (sFor (.name "_law_j") (iRange (lCons (eName "_law_many") lNil)) (sSeq (sIf (tBool (eBin opNotInD (eBin opAdd (eVal (.str (Str.ofString "tops"))) (eCall spStr (lCons (eName "_law_j") lNil))) (eName "_law_tree"))) (sSeq (sSetItem setD (eCall (sp__law_line_by ns) (lCons (eBin opMod (eName "_law_j") (eVal (.int 3))) (lCons (eName "_law_shift") lNil))) (eName "_law_tree") (eBin opAdd (eBin opAdd (eVal (.str (Str.ofString "tops"))) (eCall spStr (lCons (eName "_law_j") lNil))) (eVal (.str (Str.ofString "/x")))))
  sNil) sNil)
  sNil))
def T__law_tree_by_8 (ns : List Int) : ST :=
  (sRet (eName "_law_tree"))
def T__law_tree_by (ns : List Int) : ST := (sSeq (T__law_tree_by_1 ns) (sSeq (T__law_tree_by_2 ns) (sSeq (T__law_tree_by_3 ns) (sSeq (T__law_tree_by_4 ns) (sSeq (T__law_tree_by_5 ns) (sSeq (T__law_tree_by_6 ns) (sSeq (T__law_tree_by_7 ns) (sSeq (T__law_tree_by_8 ns) sNil))))))))
theorem b__law_tree_by {C : Cx} (G : Gl C Hd.vw) (hz : C.held = none)  (h__law_cell_at : FnAt C 0 "_law_cell_at" (sp__law_cell_at C.ns)) (h__law_path_by : FnAt C 2 "_law_path_by" (sp__law_path_by C.ns)) (h__law_is_free : FnAt C 0 "_law_is_free" (sp__law_is_free C.ns)) (h__law_line_by : FnAt C 0 "_law_line_by" (sp__law_line_by C.ns)) : HS C (scopeAt Hd.vw 21) 3 (bodyAt Hd.vw 21) (T__law_tree_by C.ns) :=
  (HS.cons (HS1.set (.inl rfl) HE.dict0 (fun _ _ => rfl))
  (HS.cons (HS1.for (HT.name rfl) (HI.rng G hz rfl (HL.cons (HE.bin ok_mod (HE.callAt G h__law_cell_at (by decide) rfl rfl (HL.cons (HE.name rfl rfl) (HL.cons HE.int HL.nil rfl) rfl) rfl) HE.int) HL.nil rfl) rfl) (HS.cons (HS1.set (.inl rfl) (HE.callAt G h__law_cell_at (by decide) rfl rfl (HL.cons (HE.name rfl rfl) (HL.cons (HE.bin ok_add HE.int (HE.name rfl rfl)) HL.nil rfl) rfl) rfl) (fun _ _ => rfl))
  (HS.cons (HS1.set (.inl rfl) (HE.callAt G h__law_path_by (by decide) rfl rfl (HL.cons (HE.name rfl rfl) (HL.cons (HE.name rfl rfl) HL.nil rfl) rfl) rfl) (fun _ _ => rfl))
  (HS.cons (HS1.ite (HB.val (HE.callAt G h__law_is_free (by decide) rfl rfl (HL.cons (HE.name rfl rfl) (HL.cons (HE.name rfl rfl) HL.nil rfl) rfl) rfl) (fun _ _ => rfl)) (HS.cons (HS1.setItem ok_setD (HE.callAt G h__law_line_by (by decide) rfl rfl (HL.cons (HE.bin ok_div (HE.name rfl rfl) HE.int) (HL.cons (HE.name rfl rfl) HL.nil rfl) rfl) rfl) (HE.name rfl rfl) (HE.name rfl rfl) (fun _ _ => rfl))
  HS.nil) HS.nil)
  HS.nil))) (fun _ _ => rfl))
  (HS.cons (HS1.set (.inl rfl) (HE.bin ok_mod (HE.bin ok_div (HE.callAt G h__law_cell_at (by decide) rfl rfl (HL.cons (HE.name rfl rfl) (HL.cons HE.int HL.nil rfl) rfl) rfl) HE.int) HE.int) (fun _ _ => rfl))
  (HS.cons (HS1.set (.inl rfl) HE.int (fun _ _ => rfl))
  (HS.cons (HS1.ite (HB.boolOp (HBs.or (HB.cmp ok_eq0 (HE.name rfl rfl) HE.int rfl) (HBs.or (HB.cmp ok_eq0 (HE.name rfl rfl) HE.int rfl) HBs.orNil))) (HS.cons (HS1.set (.inl rfl) HE.int (fun _ _ => rfl))
  HS.nil) HS.nil)
  (HS.cons (HS1.ite (HB.cmp ok_eq0 (HE.name rfl rfl) HE.int rfl) (HS.cons (HS1.set (.inl rfl) HE.int (fun _ _ => rfl))
  HS.nil) HS.nil)
  (HS.cons (HS1.for (HT.name rfl) (HI.rng G hz rfl (HL.cons (HE.name rfl rfl) HL.nil rfl) rfl) (HS.cons (HS1.ite (HB.cmp (ok_notInD G.ok) (HE.bin ok_add HE.str (HE.strC G rfl (HL.cons (HE.name rfl rfl) HL.nil rfl) rfl)) (HE.name rfl rfl) rfl) (HS.cons (HS1.setItem ok_setD (HE.callAt G h__law_line_by (by decide) rfl rfl (HL.cons (HE.bin ok_mod (HE.name rfl rfl) HE.int) (HL.cons (HE.name rfl rfl) HL.nil rfl) rfl) rfl) (HE.name rfl rfl) (HE.bin ok_add (HE.bin ok_add HE.str (HE.strC G rfl (HL.cons (HE.name rfl rfl) HL.nil rfl) rfl)) HE.str) (fun _ _ => rfl))
  HS.nil) HS.nil)
  HS.nil) (fun _ _ => rfl))
  (HS.cons (HS1.ret (HE.name rfl rfl))
  HS.nil))))))))
theorem f__law_tree_by {C : Cx} (G : Gl C Hd.vw) (hz : C.held = none)  (h__law_cell_at : FnAt C 0 "_law_cell_at" (sp__law_cell_at C.ns)) (h__law_path_by : FnAt C 2 "_law_path_by" (sp__law_path_by C.ns)) (h__law_is_free : FnAt C 0 "_law_is_free" (sp__law_is_free C.ns)) (h__law_line_by : FnAt C 0 "_law_line_by" (sp__law_line_by C.ns)) (hspec : ∀ vs σ Q, sp__law_tree_by C.ns vs σ Q → vs.length = 2 ∧ T__law_tree_by C.ns (bindM ["_law_script", "_law_shift"] vs none') σ (fin Q)) : FnAt C 3 "_law_tree_by" (sp__law_tree_by C.ns) :=
  FnAt.mk (xs := ["_law_script", "_law_shift"]) G 10 21 rfl rfl rfl rfl rfl (fun ws pm code doc h => by
    obtain ⟨w0, w1, rfl⟩ := len2 h
    rfl) rfl (b__law_tree_by G hz  h__law_cell_at h__law_path_by h__law_is_free h__law_line_by) hspec
def T__law_told_1 (ns : List Int) (ad : String → Addr) : STX :=
  (xTry "e" csX (xSeq (xRet (xPair (eVal (.str (Str.ofString "made"))) (xCall (sp_done ns) (lCons (eName "_law_tree") (lCons (eName "_law_deed") lNil)))))
  (xP sNil)) (fun e c => (sSeq (sSet "_law_some" (eList (lCons (eTup (lCons (eVal (.str (Str.ofString "NoPath"))) (lCons (eCall (spIsX e (.ref (ad "NoPath")) (subX c "NoPath")) (lCons (eName "e") (lCons (eVal (.ref (ad "NoPath"))) lNil))) lNil))) (lCons (eTup (lCons (eVal (.str (Str.ofString "NoFile"))) (lCons (eCall (spIsX e (.ref (ad "NoFile")) (subX c "NoFile")) (lCons (eName "e") (lCons (eVal (.ref (ad "NoFile"))) lNil))) lNil))) lNil))))
  (sSeq (sSet "_law_some" (eBin opAdd (eName "_law_some") (eList (lCons (eTup (lCons (eVal (.str (Str.ofString "InTheWay"))) (lCons (eCall (spIsX e (.ref (ad "InTheWay")) (subX c "InTheWay")) (lCons (eName "e") (lCons (eVal (.ref (ad "InTheWay"))) lNil))) lNil))) (lCons (eTup (lCons (eVal (.str (Str.ofString "NoClash"))) (lCons (eCall (spIsX e (.ref (ad "NoClash")) (subX c "NoClash")) (lCons (eName "e") (lCons (eVal (.ref (ad "NoClash"))) lNil))) lNil))) lNil)))))
  (sSeq (sSet "_law_some" (eBin opAdd (eName "_law_some") (eList (lCons (eTup (lCons (eVal (.str (Str.ofString "Clashed"))) (lCons (eCall (spIsX e (.ref (ad "Clashed")) (subX c "Clashed")) (lCons (eName "e") (lCons (eVal (.ref (ad "Clashed"))) lNil))) lNil))) (lCons (eTup (lCons (eVal (.str (Str.ofString "NoVersion"))) (lCons (eCall (spIsX e (.ref (ad "NoVersion")) (subX c "NoVersion")) (lCons (eName "e") (lCons (eVal (.ref (ad "NoVersion"))) lNil))) lNil))) lNil)))))
  (sSeq (sSet "_law_some" (eBin opAdd (eName "_law_some") (eList (lCons (eTup (lCons (eVal (.str (Str.ofString "SameVersion"))) (lCons (eCall (spIsX e (.ref (ad "SameVersion")) (subX c "SameVersion")) (lCons (eName "e") (lCons (eVal (.ref (ad "SameVersion"))) lNil))) lNil))) lNil))))
  (sSeq (sRet (eTup (lCons (eMeth tyStr spJoin (eVal (.str (Str.ofString ""))) (lCons (eComp [] (.tup ["_law_word", "_law_fits"]) (iList (eName "_law_some")) (tBool (eName "_law_fits")) (eName "_law_word")) lNil)) (lCons (eCall (spIsX e (.ty "ValueError") true) (lCons (eName "e") (lCons (eVal (.ty "ValueError")) lNil))) lNil))))
  sNil)))))))
def T__law_told (ns : List Int) (ad : String → Addr) : STX := (xSeq (T__law_told_1 ns ad) (xP sNil))
theorem b__law_told {C : Cx} (G : Gl C Hd.vw) (hz : C.held = none)  {ad : String → Addr} (Tb : XTab C csX ksX ad) (h_done : FnAtX C 2 "done" (sp_done C.ns)) : HSX C (scopeAt Hd.vw 22) 3 (bodyAt Hd.vw 22) (T__law_told C.ns ad) :=
  (HSX.cons (HSX1.tryAt G hz Tb (HSX.cons (HSX1.ret (HEX.pair HE.str (HEX.callAt G h_done (by decide) rfl rfl (HL.cons (HE.name rfl rfl) (HL.cons (HE.name rfl rfl) HL.nil rfl) rfl) rfl) rfl rfl))
  (HSX.plain HS.nil)) (by decide) (by decide) rfl rfl rfl (fun e o vs c hc hez hof hcls hd h2 => (HS.cons (HS1.set (.inl rfl) (HE.list (HL.cons (HE.tup (HL.cons HE.str (HL.cons (HE.isK G Tb hc hez hof hcls hd h2 (by decide) rfl rfl rfl rfl rfl) HL.nil rfl) rfl)) (HL.cons (HE.tup (HL.cons HE.str (HL.cons (HE.isK G Tb hc hez hof hcls hd h2 (by decide) rfl rfl rfl rfl rfl) HL.nil rfl) rfl)) HL.nil rfl) rfl)) (fun _ _ => rfl))
  (HS.cons (HS1.set (.inl rfl) (HE.bin ok_add (HE.name rfl rfl) (HE.list (HL.cons (HE.tup (HL.cons HE.str (HL.cons (HE.isK G Tb hc hez hof hcls hd h2 (by decide) rfl rfl rfl rfl rfl) HL.nil rfl) rfl)) (HL.cons (HE.tup (HL.cons HE.str (HL.cons (HE.isK G Tb hc hez hof hcls hd h2 (by decide) rfl rfl rfl rfl rfl) HL.nil rfl) rfl)) HL.nil rfl) rfl))) (fun _ _ => rfl))
  (HS.cons (HS1.set (.inl rfl) (HE.bin ok_add (HE.name rfl rfl) (HE.list (HL.cons (HE.tup (HL.cons HE.str (HL.cons (HE.isK G Tb hc hez hof hcls hd h2 (by decide) rfl rfl rfl rfl rfl) HL.nil rfl) rfl)) (HL.cons (HE.tup (HL.cons HE.str (HL.cons (HE.isK G Tb hc hez hof hcls hd h2 (by decide) rfl rfl rfl rfl rfl) HL.nil rfl) rfl)) HL.nil rfl) rfl))) (fun _ _ => rfl))
  (HS.cons (HS1.set (.inl rfl) (HE.bin ok_add (HE.name rfl rfl) (HE.list (HL.cons (HE.tup (HL.cons HE.str (HL.cons (HE.isK G Tb hc hez hof hcls hd h2 (by decide) rfl rfl rfl rfl rfl) HL.nil rfl) rfl)) HL.nil rfl))) (fun _ _ => rfl))
  (HS.cons (HS1.ret (HE.tup (HL.cons (HE.join HE.str (HL.cons (HE.comp (CompOk.of rfl) (HI.list (G.hold hez hof hd h2).ok (HE.name rfl rfl)) (HT.tup (G.hold hez hof hd h2).ok (l := [("_law_word", _), ("_law_fits", _)]) (by decide)) (HTs.one (HB.val (HE.name rfl rfl) (fun _ _ => rfl))) (HE.name rfl rfl) (fun _ _ => rfl)) HL.nil rfl) rfl (fun _ => rfl) rfl (by decide)) (HL.cons (HE.isV G Tb hc hez hof hcls hd h2 rfl rfl rfl rfl) HL.nil rfl) rfl)))
  HS.nil)))))))
  (HSX.plain HS.nil))
theorem f__law_told {C : Cx} (G : Gl C Hd.vw) (hz : C.held = none)  {ad : String → Addr} (Tb : XTab C csX ksX ad) (h_done : FnAtX C 2 "done" (sp_done C.ns)) (hspec : ∀ vs σ Q X, sp__law_told C.ns vs σ Q X → vs.length = 2 ∧ T__law_told C.ns ad (bindM ["_law_tree", "_law_deed"] vs none') σ (fin Q) (fun c _ σ' => X c σ')) : FnAtX C 3 "_law_told" (sp__law_told C.ns) :=
  FnAtX.mk (xs := ["_law_tree", "_law_deed"]) G 11 22 rfl rfl rfl rfl rfl (fun ws pm code doc h => by
    obtain ⟨w0, w1, rfl⟩ := len2 h
    rfl) rfl (b__law_told G hz  Tb h_done) hspec
def T__law_path_asked_1 (ns : List Int) : ST :=
  (sSet "_law_odd" (eCall (sp__law_cell_at ns) (lCons (eName "_law_script") (lCons (eVal (.int 2)) lNil))))
def T__law_path_asked_2 (ns : List Int) : ST :=
  (sSet "_law_path" (eCall (sp__law_path_by ns) (lCons (eCall (sp__law_cell_at ns) (lCons (eName "_law_script") (lCons (eVal (.int 3)) lNil))) (lCons (eName "_law_shift") lNil))))
def T__law_path_asked_3 (ns : List Int) : ST :=
  (sIf (tBool (eBin opEq0 (eBin opMod (eName "_law_odd") (eVal (.int 6))) (eVal (.int 1)))) (sSeq (sSet "_law_some" (eList (lCons (eVal (.str (Str.ofString ""))) (lCons (eBin opAdd (eVal (.str (Str.ofString "/"))) (eName "_law_path")) (lCons (eBin opAdd (eName "_law_path") (eVal (.str (Str.ofString "/")))) (lCons (eBin opAdd (eName "_law_path") (eVal (.str (Str.ofString "//a")))) (lCons (eBin opAdd (eName "_law_path") (eVal (.str (Str.ofString "/..")))) (lCons (eBin opAdd (eName "_law_path") (eVal (.str (Str.ofString "+")))) lNil))))))))
  (sSeq (sRet (eBin (opItem ns) (eBin opAdd (eName "_law_some") (eList (lCons (eBin opAdd (eVal (.str (Str.ofString "a/b/c/d/e/f/g/h/"))) (eName "_law_path")) lNil))) (eBin opMod (eBin opDiv (eName "_law_odd") (eVal (.int 6))) (eVal (.int 7)))))
  sNil)) sNil)
def T__law_path_asked_4 (ns : List Int) : ST :=
  (sIf (tAnd (tBool (eBin opGt (eBin opMod (eName "_law_odd") (eVal (.int 6))) (eVal (.int 1)))) (tAnd (tBool (eBin opGt (eCall (spLen ns) (lCons (eName "_law_tree") lNil)) (eVal (.int 0)))) tT)) (sSeq (sSet "_law_path" (eBin (opItem ns) (eCall spListD (lCons (eName "_law_tree") lNil)) (eBin opMod (eBin opDiv (eName "_law_odd") (eVal (.int 6))) (eCall (spLen ns) (lCons (eName "_law_tree") lNil)))))
  (sSeq (sSet "_law_many" (eBin opAdd (eMeth tyStr spCount (eName "_law_path") (lCons (eVal (.str (Str.ofString "/"))) lNil)) (eVal (.int 1))))
  (sSeq (sIf (tAnd (tBool (eBin opEq0 (eBin opMod (eName "_law_odd") (eVal (.int 6))) (eVal (.int 2)))) (tAnd (tBool (eBin opLt (eName "_law_many") (eVal (.int 7)))) tT)) (sSeq (sSet "_law_path" (eBin opAdd (eBin opAdd (eBin opAdd (eName "_law_path") (eVal (.str (Str.ofString "/")))) (eCall (sp__law_name_by ns) (lCons (eBin opDiv (eName "_law_odd") (eVal (.int 42))) (lCons (eName "_law_shift") lNil)))) (eBin (opItem ns) (eList (lCons (eVal (.str (Str.ofString ""))) (lCons (eVal (.str (Str.ofString "/b"))) lNil))) (eBin opMod (eBin opDiv (eName "_law_odd") (eVal (.int 84))) (eVal (.int 2))))))
  sNil) sNil)
  (sSeq (sIf (tBool (eBin opEq0 (eBin opMod (eName "_law_odd") (eVal (.int 6))) (eVal (.int 3)))) (sSeq (sSet "_law_path" (eMeth tyStr spJoin (eVal (.str (Str.ofString "/"))) (lCons (eCut ns (eMeth tyStr spSplit (eName "_law_path") (lCons (eVal (.str (Str.ofString "/"))) lNil)) pNone (pSome (eBin opAdd (eVal (.int 1)) (eBin opMod (eBin opDiv (eName "_law_odd") (eVal (.int 42))) (eName "_law_many"))))) lNil)))
  sNil) sNil)
  sNil)))) sNil)
def T__law_path_asked_5 (ns : List Int) : ST :=
  (sRet (eName "_law_path"))
def T__law_path_asked (ns : List Int) : ST := (sSeq (T__law_path_asked_1 ns) (sSeq (T__law_path_asked_2 ns) (sSeq (T__law_path_asked_3 ns) (sSeq (T__law_path_asked_4 ns) (sSeq (T__law_path_asked_5 ns) sNil)))))
theorem b__law_path_asked {C : Cx} (G : Gl C Hd.vw) (hz : C.held = none)  (h__law_cell_at : FnAt C 0 "_law_cell_at" (sp__law_cell_at C.ns)) (h__law_path_by : FnAt C 2 "_law_path_by" (sp__law_path_by C.ns)) (h__law_name_by : FnAt C 1 "_law_name_by" (sp__law_name_by C.ns)) : HS C (scopeAt Hd.vw 23) 3 (bodyAt Hd.vw 23) (T__law_path_asked C.ns) :=
  (HS.cons (HS1.set (.inl rfl) (HE.callAt G h__law_cell_at (by decide) rfl rfl (HL.cons (HE.name rfl rfl) (HL.cons HE.int HL.nil rfl) rfl) rfl) (fun _ _ => rfl))
  (HS.cons (HS1.set (.inl rfl) (HE.callAt G h__law_path_by (by decide) rfl rfl (HL.cons (HE.callAt G h__law_cell_at (by decide) rfl rfl (HL.cons (HE.name rfl rfl) (HL.cons HE.int HL.nil rfl) rfl) rfl) (HL.cons (HE.name rfl rfl) HL.nil rfl) rfl) rfl) (fun _ _ => rfl))
  (HS.cons (HS1.ite (HB.cmp ok_eq0 (HE.bin ok_mod (HE.name rfl rfl) HE.int) HE.int rfl) (HS.cons (HS1.set (.inl rfl) (HE.list (HL.cons HE.str (HL.cons (HE.bin ok_add HE.str (HE.name rfl rfl)) (HL.cons (HE.bin ok_add (HE.name rfl rfl) HE.str) (HL.cons (HE.bin ok_add (HE.name rfl rfl) HE.str) (HL.cons (HE.bin ok_add (HE.name rfl rfl) HE.str) (HL.cons (HE.bin ok_add (HE.name rfl rfl) HE.str) HL.nil rfl) rfl) rfl) rfl) rfl) rfl)) (fun _ _ => rfl))
  (HS.cons (HS1.ret (HE.item G (HE.bin ok_add (HE.name rfl rfl) (HE.list (HL.cons (HE.bin ok_add HE.str (HE.name rfl rfl)) HL.nil rfl))) (HE.bin ok_mod (HE.bin ok_div (HE.name rfl rfl) HE.int) HE.int) rfl))
  HS.nil)) HS.nil)
  (HS.cons (HS1.ite (HB.boolOp (HBs.and (HB.cmp ok_gt (HE.bin ok_mod (HE.name rfl rfl) HE.int) HE.int rfl) (HBs.and (HB.cmp ok_gt (HE.len G rfl (HL.cons (HE.name rfl rfl) HL.nil rfl) rfl) HE.int rfl) HBs.andNil))) (HS.cons (HS1.set (.inl rfl) (HE.item G (HE.listC G hz rfl (HL.cons (HE.name rfl rfl) HL.nil rfl) rfl) (HE.bin ok_mod (HE.bin ok_div (HE.name rfl rfl) HE.int) (HE.len G rfl (HL.cons (HE.name rfl rfl) HL.nil rfl) rfl)) rfl) (fun _ _ => rfl))
  (HS.cons (HS1.set (.inl rfl) (HE.bin ok_add (HE.count (HE.name rfl rfl) (HL.cons HE.str HL.nil rfl) rfl (fun _ => rfl) rfl (by decide)) HE.int) (fun _ _ => rfl))
  (HS.cons (HS1.ite (HB.boolOp (HBs.and (HB.cmp ok_eq0 (HE.bin ok_mod (HE.name rfl rfl) HE.int) HE.int rfl) (HBs.and (HB.cmp ok_lt (HE.name rfl rfl) HE.int rfl) HBs.andNil))) (HS.cons (HS1.set (.inl rfl) (HE.bin ok_add (HE.bin ok_add (HE.bin ok_add (HE.name rfl rfl) HE.str) (HE.callAt G h__law_name_by (by decide) rfl rfl (HL.cons (HE.bin ok_div (HE.name rfl rfl) HE.int) (HL.cons (HE.name rfl rfl) HL.nil rfl) rfl) rfl)) (HE.item G (HE.list (HL.cons HE.str (HL.cons HE.str HL.nil rfl) rfl)) (HE.bin ok_mod (HE.bin ok_div (HE.name rfl rfl) HE.int) HE.int) rfl)) (fun _ _ => rfl))
  HS.nil) HS.nil)
  (HS.cons (HS1.ite (HB.cmp ok_eq0 (HE.bin ok_mod (HE.name rfl rfl) HE.int) HE.int rfl) (HS.cons (HS1.set (.inl rfl) (HE.join HE.str (HL.cons (HE.cut G.ok (HE.split (HE.name rfl rfl) (HL.cons HE.str HL.nil rfl) rfl (fun _ => rfl) rfl (by decide)) HP.none (HP.some (HE.bin ok_add HE.int (HE.bin ok_mod (HE.bin ok_div (HE.name rfl rfl) HE.int) (HE.name rfl rfl))))) HL.nil rfl) rfl (fun _ => rfl) rfl (by decide)) (fun _ _ => rfl))
  HS.nil) HS.nil)
  HS.nil)))) HS.nil)
  (HS.cons (HS1.ret (HE.name rfl rfl))
  HS.nil)))))
theorem f__law_path_asked {C : Cx} (G : Gl C Hd.vw) (hz : C.held = none)  (h__law_cell_at : FnAt C 0 "_law_cell_at" (sp__law_cell_at C.ns)) (h__law_path_by : FnAt C 2 "_law_path_by" (sp__law_path_by C.ns)) (h__law_name_by : FnAt C 1 "_law_name_by" (sp__law_name_by C.ns)) (hspec : ∀ vs σ Q, sp__law_path_asked C.ns vs σ Q → vs.length = 3 ∧ T__law_path_asked C.ns (bindM ["_law_script", "_law_shift", "_law_tree"] vs none') σ (fin Q)) : FnAt C 3 "_law_path_asked" (sp__law_path_asked C.ns) :=
  FnAt.mk (xs := ["_law_script", "_law_shift", "_law_tree"]) G 12 23 rfl rfl rfl rfl rfl (fun ws pm code doc h => by
    obtain ⟨w0, w1, w2, rfl⟩ := len3 h
    rfl) rfl (b__law_path_asked G hz  h__law_cell_at h__law_path_by h__law_name_by) hspec
def T_law_1 (ns : List Int) : STX :=
  (xP (sSet "_law_shift" (eCall (sp__law_cell_at ns) (lCons (eName "_law_script") (lCons (eVal (.int 0)) lNil)))))
def T_law_2 (ns : List Int) : STX :=
  (xP (sSet "_law_tree" (eCall (sp__law_tree_by ns) (lCons (eName "_law_script") (lCons (eName "_law_shift") lNil)))))
def T_law_3 (ns : List Int) : STX :=
  (xP (sSet "_law_odd" (eCall (sp__law_cell_at ns) (lCons (eName "_law_script") (lCons (eVal (.int 2)) lNil)))))
def T_law_4 (ns : List Int) : STX :=
  (xP (sSet "_law_path" (eCall (sp__law_path_asked ns) (lCons (eName "_law_script") (lCons (eName "_law_shift") (lCons (eName "_law_tree") lNil))))))
def T_law_5 (ns : List Int) : STX :=
  (xP (sSet "_law_line" (eCall (sp__law_line_by ns) (lCons (eBin opDiv (eName "_law_odd") (eVal (.int 360))) (lCons (eName "_law_shift") lNil)))))
def T_law_6 (ns : List Int) : STX :=
  (xP (sSet "_law_deed" (eTup (lCons (eVal (.str (Str.ofString "put"))) (lCons (eName "_law_path") (lCons (eName "_law_line") lNil))))))
def T_law_7 (ns : List Int) : STX :=
  (xP (sSet "_law_word" (eVal (.str (Str.ofString "made")))))
def T_law_8 (ns : List Int) : STX :=
  (xP (sSet "_law_due" (eCall spDictC (lCons (eName "_law_tree") lNil))))
def T_law_9 (ns : List Int) : STX :=
  (xP (sSetItem setD (eName "_law_line") (eName "_law_due") (eName "_law_path")))
def T_law_10 (ns : List Int) : STX :=
  (xP (sIf (tBool (eBin opEq0 (eBin opMod (eBin opAdd (eName "_law_odd") (eBin opDiv (eName "_law_odd") (eVal (.int 42)))) (eVal (.int 2))) (eVal (.int 0)))) (sSeq (sSet "_law_deed" (eTup (lCons (eVal (.str (Str.ofString "cut"))) (lCons (eName "_law_path") lNil))))
  (sSeq (sExpr (eMeth tyDict spPop (eName "_law_due") (lCons (eName "_law_path") lNil)))
  (sSeq (sIf (tBool (eBin opNotInD (eName "_law_path") (eName "_law_tree"))) (sSeq (sSet "_law_word" (eVal (.str (Str.ofString "NoFile"))))
  sNil) sNil)
  sNil))) (sSeq (sIf (tNot (tBool (eCall (sp__law_is_free ns) (lCons (eName "_law_tree") (lCons (eName "_law_path") lNil))))) (sSeq (sSet "_law_word" (eVal (.str (Str.ofString "InTheWay"))))
  sNil) sNil)
  sNil)))
def T_law_11 (ns : List Int) : STX :=
  (xP (sIf (tBool (eBin opEq0 (eBin opMod (eName "_law_odd") (eVal (.int 6))) (eVal (.int 1)))) (sSeq (sSet "_law_word" (eVal (.str (Str.ofString "NoPath"))))
  sNil) sNil))
def T_law_12 (ns : List Int) : STX :=
  (xP (sSet "_law_kept" (eCall spDictC (lCons (eName "_law_tree") lNil))))
def T_law_13 (ns : List Int) : STX :=
  (xSet "_law_found" (xCall (sp__law_told ns) (lCons (eName "_law_tree") (lCons (eName "_law_deed") lNil))))
def T_law_14 (ns : List Int) : ST :=
  (sIf (tOr (tBool (eBin opNe (eName "_law_tree") (eName "_law_kept"))) (tOr (tBool (eBin opNe0 (eBin (opItem ns) (eName "_law_found") (eVal (.int 0))) (eName "_law_word"))) tF)) (sSeq (sRet (eVal (.bool false)))
  sNil) sNil)
def T_law_15 (ns : List Int) : ST :=
  (sIf (tBool (eBin opNe0 (eName "_law_word") (eVal (.str (Str.ofString "made"))))) (sSeq (sRet (eBin opIs (eBin (opItem ns) (eName "_law_found") (eVal (.int 1))) (eVal (.bool true))))
  sNil) sNil)
def T_law_16 (ns : List Int) : ST :=
  (sIf (tOr (tNot (tBool (eCall spIsi (lCons (eBin (opItem ns) (eName "_law_found") (eVal (.int 1))) (lCons (eVal (.ty "dict")) lNil))))) (tOr (tBool (eBin opNe (eBin (opItem ns) (eName "_law_found") (eVal (.int 1))) (eName "_law_due"))) tF)) (sSeq (sRet (eVal (.bool false)))
  sNil) sNil)
def T_law_17 (ns : List Int) : ST :=
  (sSetItem setD (eVal (.str (Str.ofString "y"))) (eBin (opItem ns) (eName "_law_found") (eVal (.int 1))) (eVal (.str (Str.ofString "x"))))
def T_law_18 (ns : List Int) : ST :=
  (sRet (eBin opEqD (eName "_law_tree") (eName "_law_kept")))
def T_law (ns : List Int) : STX := (xSeq (T_law_1 ns) (xSeq (T_law_2 ns) (xSeq (T_law_3 ns) (xSeq (T_law_4 ns) (xSeq (T_law_5 ns) (xSeq (T_law_6 ns) (xSeq (T_law_7 ns) (xSeq (T_law_8 ns) (xSeq (T_law_9 ns) (xSeq (T_law_10 ns) (xSeq (T_law_11 ns) (xSeq (T_law_12 ns) (xSeq (T_law_13 ns) (xP (sSeq (T_law_14 ns) (sSeq (T_law_15 ns) (sSeq (T_law_16 ns) (sSeq (T_law_17 ns) (sSeq (T_law_18 ns) sNil)))))))))))))))))))
theorem b_law {C : Cx} (G : Gl C Hd.vw) (hz : C.held = none)  (h__law_cell_at : FnAt C 0 "_law_cell_at" (sp__law_cell_at C.ns)) (h__law_tree_by : FnAt C 3 "_law_tree_by" (sp__law_tree_by C.ns)) (h__law_path_asked : FnAt C 3 "_law_path_asked" (sp__law_path_asked C.ns)) (h__law_line_by : FnAt C 0 "_law_line_by" (sp__law_line_by C.ns)) (h__law_is_free : FnAt C 0 "_law_is_free" (sp__law_is_free C.ns)) (h__law_told : FnAtX C 3 "_law_told" (sp__law_told C.ns)) : HSX C (scopeAt Hd.vw 24) 4 (bodyAt Hd.vw 24) (T_law C.ns) :=
  (HSX.cons (HSX1.plain (HS1.set (.inl rfl) (HE.callAt G h__law_cell_at (by decide) rfl rfl (HL.cons (HE.name rfl rfl) (HL.cons HE.int HL.nil rfl) rfl) rfl) (fun _ _ => rfl)))
  (HSX.cons (HSX1.plain (HS1.set (.inl rfl) (HE.callAt G h__law_tree_by (by decide) rfl rfl (HL.cons (HE.name rfl rfl) (HL.cons (HE.name rfl rfl) HL.nil rfl) rfl) rfl) (fun _ _ => rfl)))
  (HSX.cons (HSX1.plain (HS1.set (.inl rfl) (HE.callAt G h__law_cell_at (by decide) rfl rfl (HL.cons (HE.name rfl rfl) (HL.cons HE.int HL.nil rfl) rfl) rfl) (fun _ _ => rfl)))
  (HSX.cons (HSX1.plain (HS1.set (.inl rfl) (HE.callAt G h__law_path_asked (by decide) rfl rfl (HL.cons (HE.name rfl rfl) (HL.cons (HE.name rfl rfl) (HL.cons (HE.name rfl rfl) HL.nil rfl) rfl) rfl) rfl) (fun _ _ => rfl)))
  (HSX.cons (HSX1.plain (HS1.set (.inl rfl) (HE.callAt G h__law_line_by (by decide) rfl rfl (HL.cons (HE.bin ok_div (HE.name rfl rfl) HE.int) (HL.cons (HE.name rfl rfl) HL.nil rfl) rfl) rfl) (fun _ _ => rfl)))
  (HSX.cons (HSX1.plain (HS1.set (.inl rfl) (HE.tup (HL.cons HE.str (HL.cons (HE.name rfl rfl) (HL.cons (HE.name rfl rfl) HL.nil rfl) rfl) rfl)) (fun _ _ => rfl)))
  (HSX.cons (HSX1.plain (HS1.set (.inl rfl) HE.str (fun _ _ => rfl)))
  (HSX.cons (HSX1.plain (HS1.set (.inl rfl) (HE.dictC G rfl (HL.cons (HE.name rfl rfl) HL.nil rfl) rfl) (fun _ _ => rfl)))
  (HSX.cons (HSX1.plain (HS1.setItem ok_setD (HE.name rfl rfl) (HE.name rfl rfl) (HE.name rfl rfl) (fun _ _ => rfl)))
  (HSX.cons (HSX1.plain (HS1.ite (HB.cmp ok_eq0 (HE.bin ok_mod (HE.bin ok_add (HE.name rfl rfl) (HE.bin ok_div (HE.name rfl rfl) HE.int)) HE.int) HE.int rfl) (HS.cons (HS1.set (.inl rfl) (HE.tup (HL.cons HE.str (HL.cons (HE.name rfl rfl) HL.nil rfl) rfl)) (fun _ _ => rfl))
  (HS.cons (HS1.expr (HE.popD (HE.name rfl rfl) (HL.cons (HE.name rfl rfl) HL.nil rfl) rfl (fun _ => rfl) rfl (by decide)) (fun _ _ => rfl))
  (HS.cons (HS1.ite (HB.cmp (ok_notInD G.ok) (HE.name rfl rfl) (HE.name rfl rfl) rfl) (HS.cons (HS1.set (.inl rfl) HE.str (fun _ _ => rfl))
  HS.nil) HS.nil)
  HS.nil))) (HS.cons (HS1.ite (HB.not (HB.val (HE.callAt G h__law_is_free (by decide) rfl rfl (HL.cons (HE.name rfl rfl) (HL.cons (HE.name rfl rfl) HL.nil rfl) rfl) rfl) (fun _ _ => rfl))) (HS.cons (HS1.set (.inl rfl) HE.str (fun _ _ => rfl))
  HS.nil) HS.nil)
  HS.nil)))
  (HSX.cons (HSX1.plain (HS1.ite (HB.cmp ok_eq0 (HE.bin ok_mod (HE.name rfl rfl) HE.int) HE.int rfl) (HS.cons (HS1.set (.inl rfl) HE.str (fun _ _ => rfl))
  HS.nil) HS.nil))
  (HSX.cons (HSX1.plain (HS1.set (.inl rfl) (HE.dictC G rfl (HL.cons (HE.name rfl rfl) HL.nil rfl) rfl) (fun _ _ => rfl)))
  (HSX.cons (HSX1.set (.inl rfl) (HEX.callAt G h__law_told (by decide) rfl rfl (HL.cons (HE.name rfl rfl) (HL.cons (HE.name rfl rfl) HL.nil rfl) rfl) rfl) (fun _ _ => rfl))
  (HSX.plain (HS.cons (HS1.ite (HB.boolOp (HBs.or (HB.cmp (ok_neD G.ok) (HE.name rfl rfl) (HE.name rfl rfl) rfl) (HBs.or (HB.cmp ok_ne0 (HE.item G (HE.name rfl rfl) HE.int rfl) (HE.name rfl rfl) rfl) HBs.orNil))) (HS.cons (HS1.ret HE.bool)
  HS.nil) HS.nil)
  (HS.cons (HS1.ite (HB.cmp ok_ne0 (HE.name rfl rfl) HE.str rfl) (HS.cons (HS1.ret (HE.cmp ok_is (HE.item G (HE.name rfl rfl) HE.int rfl) HE.bool rfl))
  HS.nil) HS.nil)
  (HS.cons (HS1.ite (HB.boolOp (HBs.or (HB.not (HB.val (HE.isi G rfl (HL.cons (HE.item G (HE.name rfl rfl) HE.int rfl) (HL.cons (HE.gDict G rfl) HL.nil rfl) rfl) rfl) (fun _ _ => rfl))) (HBs.or (HB.cmp (ok_neD G.ok) (HE.item G (HE.name rfl rfl) HE.int rfl) (HE.name rfl rfl) rfl) HBs.orNil))) (HS.cons (HS1.ret HE.bool)
  HS.nil) HS.nil)
  (HS.cons (HS1.setItem ok_setD HE.str (HE.item G (HE.name rfl rfl) HE.int rfl) HE.str (fun _ _ => rfl))
  (HS.cons (HS1.ret (HE.cmp (ok_eqD G.ok) (HE.name rfl rfl) (HE.name rfl rfl) rfl))
  HS.nil)))))))))))))))))))
theorem f_law {C : Cx} (G : Gl C Hd.vw) (hz : C.held = none)  (h__law_cell_at : FnAt C 0 "_law_cell_at" (sp__law_cell_at C.ns)) (h__law_tree_by : FnAt C 3 "_law_tree_by" (sp__law_tree_by C.ns)) (h__law_path_asked : FnAt C 3 "_law_path_asked" (sp__law_path_asked C.ns)) (h__law_line_by : FnAt C 0 "_law_line_by" (sp__law_line_by C.ns)) (h__law_is_free : FnAt C 0 "_law_is_free" (sp__law_is_free C.ns)) (h__law_told : FnAtX C 3 "_law_told" (sp__law_told C.ns)) (hspec : ∀ vs σ Q X, sp_law C.ns vs σ Q X → vs.length = 1 ∧ T_law C.ns (bindM ["_law_script"] vs none') σ (fin Q) (fun c _ σ' => X c σ')) : FnAtX C 4 "law" (sp_law C.ns) :=
  FnAtX.mk (xs := ["_law_script"]) G 13 24 rfl rfl rfl rfl rfl (fun ws pm code doc h => by
    obtain ⟨w0, rfl⟩ := len1 h
    rfl) rfl (b_law G hz  h__law_cell_at h__law_tree_by h__law_path_asked h__law_line_by h__law_is_free h__law_told) hspec
end Mine


end
noncomputable section
set_option autoImplicit false
set_option maxRecDepth 10000
set_option linter.unusedVariables false
set_option linter.unusedSimpArgs false
namespace Mine
open PySem PySem.W PyProof.Rows PySem.Calls
section
variable {ns : List Int} {σ : View} {Q : V → View → Prop}
@[simp] theorem sp_cell {k : Int} : sp__law_cell_at ns [.script, .int k] σ Q = (0 ≤ k ∧ Q (.int (cell ns k)) σ) := by simp [sp__law_cell_at]
@[simp] theorem sp_sign {k : Int} : sp__law_sign_by ns [.int k] σ Q = Q (.str (signBy k)) σ := by simp [sp__law_sign_by]
@[simp] theorem sp_isp {x : Str} : sp_is_part ns [.str x] σ Q = (x.length ≤ 1000 ∧ Q (.bool (okPart x)) σ) := by simp [sp_is_part]
@[simp] theorem sp_path {x : Str} : sp_is_path ns [.str x] σ Q = (x.length ≤ 1000 ∧ ∀ σ', Grow σ σ' → Q (.bool (okPath x)) σ') := by simp [sp_is_path]
@[simp] theorem sp_ben {x y : Str} : sp_is_beneath ns [.str x, .str y] σ Q = (y.length ≤ 1000 ∧ Q (.bool (Txt.startswith x (y ++ Str.ofString "/"))) σ) := by
  unfold sp_is_beneath
  exact propext ⟨fun ⟨_, _, e, h⟩ => by cases e; exact h, fun h => ⟨x, y, rfl, h⟩⟩
@[simp] theorem sp_name {c n : Int} : sp__law_name_by ns [.int c, .int n] σ Q = (∀ (x : Str) σ', Grow σ σ' → okPart x = true → Q (.str x) σ') := by
  unfold sp__law_name_by
  exact propext ⟨fun ⟨_, _, e, h⟩ => by cases e; exact h, fun h => ⟨c, n, rfl, h⟩⟩
@[simp] theorem sp_pathby {c n : Int} : sp__law_path_by ns [.int c, .int n] σ Q = (∀ (x : Str) σ', Grow σ σ' → okPath x = true → x.length ≤ 200 → Q (.str x) σ') := by
  unfold sp__law_path_by
  exact propext ⟨fun ⟨_, _, e, h⟩ => by cases e; exact h, fun h => ⟨c, n, rfl, h⟩⟩
@[simp] theorem sp_line {c n : Int} : sp__law_line_by ns [.int c, .int n] σ Q = (∀ (x : Str) σ', Grow σ σ' → x.length ≤ 1000 → Q (.str x) σ') := by
  unfold sp__law_line_by
  exact propext ⟨fun ⟨_, _, e, h⟩ => by cases e; exact h, fun h => ⟨c, n, rfl, h⟩⟩
end
theorem s_cell (ns : List Int) : ∀ vs σ Q, sp__law_cell_at ns vs σ Q → vs.length = 2 ∧ T__law_cell_at ns (bindM ["_law_script", "_law_k"] vs none') σ (fin Q) := by
  rintro vs σ Q ⟨k, rfl, hk, q⟩
  refine ⟨rfl, ?_⟩
  simp [T__law_cell_at, T__law_cell_at_1, T__law_cell_at_2, seq_eq]
  split
  · rename_i h; exact cell_item hk h q
  · rename_i h; rw [cell_out hk h] at q; exact q
theorem item_mod {x : Str} {k m : Int} {ns : List Int} {σ : View} {Q : V → View → Prop} (hm : (x.length : Int) = m) (h0 : 0 < m) (hz : x.length < 16777217) (q : ∀ y : Str, y.length = 1 → Q (.str y) σ) : opItem ns (.str x) (.int (k % m)) σ Q := by
  have a1 := Int.emod_nonneg k (b := m) (by omega)
  have a2 := Int.emod_lt_of_pos k h0
  generalize k % m = r at a1 a2 ⊢
  have hr : r.toNat < (cl x).length := by rw [← cl_len]; omega
  exact item_str hz a1 (List.getElem?_eq_getElem hr) (q _ rfl)
theorem s_sign (ns : List Int) : ∀ vs σ Q, sp__law_sign_by ns vs σ Q → vs.length = 1 ∧ T__law_sign_by ns (bindM ["_law_k"] vs none') σ (fin Q) := by
  rintro vs σ Q ⟨k, rfl, q⟩
  refine ⟨rfl, ?_⟩
  have h0 : 0 ≤ k % 65 := Int.emod_nonneg _ (by decide)
  have h1 : k % 65 < 65 := Int.emod_lt_of_pos _ (by decide)
  have hl : (cl ALS).length = 65 := by decide +kernel
  simp [T__law_sign_by, T__law_sign_by_1, seq_eq]
  refine item_str (by decide +kernel) h0 (c := (cl ALS).getD (k % 65).toNat 0) ?_ q
  show (cl ALS)[(k % 65).toNat]? = _
  rw [List.getD_eq_getElem?_getD]
  cases e : (cl ALS)[(k % 65).toNat]? with
  | none => rw [List.getElem?_eq_none_iff, hl] at e; omega
  | some n => rfl
theorem signs_get {x : Str} {i : Nat} {v : V} (h : (signs x)[i]? = some v) : ∃ c, (cl x)[i]? = some c ∧ v = .str ⟨#[c]⟩ := by
  unfold signs at h
  rw [List.getElem?_map] at h
  obtain ⟨c, h1, rfl⟩ := Option.map_eq_some_iff.mp h
  exact ⟨c, h1, rfl⟩
theorem signs_len (x : Str) : (signs x).length = (cl x).length := by simp [signs]
theorem all_take_succ {f : Nat → Bool} {l : List Nat} {i : Nat} {c : Nat} (h : (l.take i).all f = true) (hc : l[i]? = some c) (hf : f c = true) : (l.take (i + 1)).all f = true := by
  rw [List.take_add_one, hc, List.all_append, h]; simp [hf]
theorem s_isp (ns : List Int) : ∀ vs σ Q, sp_is_part ns vs σ Q → vs.length = 1 ∧ T_is_part ns (bindM ["text"] vs none') σ (fin Q) := by
  rintro vs σ Q ⟨x, rfl, hx, q⟩
  refine ⟨rfl, ?_⟩
  have loop : (x ≠ Str.ofString "." ∧ x ≠ Str.ofString ".." ∧ 1 ≤ x.length ∧ x.length ≤ 12) → T_is_part_2 ns (put none' "text" (.str x)) σ (kont (sSeq (T_is_part_3 ns) sNil) (fin Q)) := by
    intro hg
    simp [T_is_part_2]
    refine forL_inv (fun i m σ' => σ' = σ ∧ ((cl x).take i).all (fun c => Txt.contains ALS ⟨#[c]⟩) = true) (fun u m σ' => σ' = σ ∧ u = .bool false ∧ okPart x = false) (fun _ _ _ _ => trivial) _ ?_ ?_ ?_ _ _ ⟨rfl, by simp⟩
    · rintro i v m σ' Q' hv ⟨rfl, h⟩ n1 n2 n3
      obtain ⟨c, hc, rfl⟩ := signs_get hv
      refine ⟨_, rfl, ?_⟩
      simp [seq_eq]
      split
      · rename_i e; exact n1 _ _ ⟨rfl, all_take_succ h hc e⟩
      · rename_i e
        refine n3 _ _ _ ⟨rfl, rfl, ?_⟩
        unfold okPart
        rw [Bool.and_eq_false_iff]
        right
        rw [List.all_eq_false]
        exact ⟨c, List.mem_of_getElem? hc, by simpa [ALS] using e⟩
    · rintro m σ' ⟨rfl, h⟩
      rw [signs_len, List.take_length] at h
      have : okPart x = true := by unfold okPart; rw [Bool.and_eq_true]; exact ⟨decide_eq_true hg, h⟩
      rw [this] at q
      simpa [seq_eq, T_is_part_3] using q
    · rintro u m σ' ⟨rfl, rfl, h⟩
      rw [h] at q
      simpa using q
  have bad : ¬ (x ≠ Str.ofString "." ∧ x ≠ Str.ofString ".." ∧ 1 ≤ x.length ∧ x.length ≤ 12) → okPart x = false := fun h => by
    unfold okPart; rw [decide_eq_false h]; rfl
  unfold T_is_part
  rw [seq_eq]
  simp [T_is_part_1, seq_eq]
  by_cases h1 : x = Str.ofString "."
  · rw [bad (by simp [h1])] at q; simpa [h1] using q
  by_cases h2 : x = Str.ofString ".."
  · rw [bad (by simp [h2])] at q; simpa [h1, h2] using q
  simp [h1, h2]
  refine ⟨by omega, ?_⟩
  by_cases h3 : 1 ≤ x.length
  · by_cases h4 : x.length ≤ 12
    · have h3' : (1 : Int) ≤ x.length := by omega
      have h4' : (x.length : Int) ≤ 12 := by omega
      simp [h3', h4']
      exact loop ⟨h1, h2, h3, h4⟩
    · have h3' : (1 : Int) ≤ x.length := by omega
      have h4' : ¬ (x.length : Int) ≤ 12 := by omega
      rw [bad (by omega)] at q
      simpa [h3', h4', seq_eq] using q
  · have h3' : ¬ (1 : Int) ≤ x.length := by omega
    rw [bad (by omega)] at q
    simpa [h3', seq_eq] using q
theorem part_len {x p : Str} (hp : p ∈ Txt.split x (Str.ofString "/")) : p.length ≤ x.length := by
  have h0 := PyProof.Rows.split_pos x (Str.ofString "/")
  have h := PyProof.Rows.split_weight x (Str.ofString "/") (by rw [sl_len]; omega)
  have : ∀ (l : List Str), p ∈ l → p.length ≤ (l.map (·.length)).sum := by
    intro l
    induction l with
    | nil => intro h; simp at h
    | cons y r ih => intro h; rcases List.mem_cons.mp h with rfl | h
                     · simp
                     · have := ih h; simp; omega
  have := this _ hp
  omega
theorem s_path (ns : List Int) : ∀ vs σ Q, sp_is_path ns vs σ Q → vs.length = 1 ∧ T_is_path ns (bindM ["text"] vs none') σ (fin Q) := by
  rintro vs σ Q ⟨x, rfl, hx, q⟩
  refine ⟨rfl, ?_⟩
  unfold T_is_path
  rw [seq_eq]
  simp [T_is_path_1, sl_len]
  refine ⟨by omega, fun a ha => ?_⟩
  replace q := q _ (Grow.refl.upd (o := .list ((Txt.split x (Str.ofString "/")).map .str)) ha)
  have ha' := upd_same σ a (.list ((Txt.split x (Str.ofString "/")).map .str))
  generalize (upd σ a (.list ((Txt.split x (Str.ofString "/")).map .str))) = σ₁ at q ha' ⊢
  show sSeq _ _ _ _ _
  rw [seq_eq]
  simp [T_is_path_2, len_list ha', seq_eq]
  split
  · rename_i h
    have : okPath x = false := by unfold okPath; rw [decide_eq_false (by omega)]; rfl
    rw [this] at q
    exact q
  · rename_i h
    simp [T_is_path_3, iter_list ha']
    refine forL_inv (fun i m σ' => σ' = σ₁ ∧ ((Txt.split x (Str.ofString "/")).take i).all okPart = true) (fun u m σ' => σ' = σ₁ ∧ u = .bool false ∧ okPath x = false) (fun i m σ' h => by rw [h.1]; exact ha') _ ?_ ?_ ?_ _ _ ⟨rfl, by simp⟩
    · rintro i v m σ' Q' hv ⟨rfl, h⟩ n1 n2 n3
      rw [List.getElem?_map] at hv
      obtain ⟨pt, hp, rfl⟩ := Option.map_eq_some_iff.mp hv
      have hl := part_len (List.mem_of_getElem? hp)
      refine ⟨_, rfl, ?_⟩
      simp [seq_eq]
      refine ⟨by omega, ?_⟩
      split
      · rename_i e
        refine n1 _ _ ⟨rfl, ?_⟩
        rw [List.take_add_one, hp, List.all_append, h]; simp [e]
      · rename_i e
        refine n3 _ _ _ ⟨rfl, rfl, ?_⟩
        unfold okPath
        rw [Bool.and_eq_false_iff]
        right
        rw [List.all_eq_false]
        exact ⟨pt, List.mem_of_getElem? hp, e⟩
    · rintro m σ' ⟨rfl, h'⟩
      rw [List.length_map, List.take_length] at h'
      have : okPath x = true := by unfold okPath; rw [h', decide_eq_true (by omega)]; rfl
      rw [this] at q
      simpa [seq_eq, T_is_path_4] using q
    · rintro u m σ' ⟨rfl, rfl, h⟩
      rw [h] at q
      simpa using q
/- names -/
def One (x : Str) : Prop := ∃ c ∈ cl ALS, x = ⟨#[c]⟩
def Inn (x : Str) : Prop := ∀ c ∈ cl x, c ∈ cl ALS
theorem als_len : (cl ALS).length = 65 := by decide +kernel
theorem sign_one (k : Int) : One (signBy k) := by
  have h0 : 0 ≤ k % 65 := Int.emod_nonneg _ (by decide)
  have h1 : k % 65 < 65 := Int.emod_lt_of_pos _ (by decide)
  refine ⟨(cl ALS).getD (k % 65).toNat 0, ?_, rfl⟩
  rw [List.getD_eq_getElem?_getD, List.getElem?_eq_getElem (by rw [als_len]; omega)]
  exact List.getElem_mem _
theorem len_append (x y : Str) : (x ++ y).length = x.length + y.length := by rw [cl_len, cl_append, List.length_append, ← cl_len, ← cl_len]
theorem inn_append {x y : Str} (hx : Inn x) (hy : Inn y) : Inn (x ++ y) := fun c hc => by
  rw [cl_append] at hc
  rcases List.mem_append.mp hc with h | h
  · exact hx c h
  · exact hy c h
theorem inn_one {x : Str} (h : One x) : Inn x := by
  obtain ⟨c, hc, rfl⟩ := h
  intro d hd
  have : d = c := by simpa [cl] using hd
  rw [this]; exact hc
theorem one_len {x : Str} (h : One x) : x.length = 1 := by obtain ⟨c, _, rfl⟩ := h; rfl
theorem e_len : (Str.ofString "").length = 0 := by decide +kernel
theorem join_ones : ∀ (l : List Str), (∀ y ∈ l, One y) → Inn (Str.join (Str.ofString "") l) ∧ (Str.join (Str.ofString "") l).length = l.length
  | [], _ => ⟨fun c hc => by simp [Str.join, Str.empty] at hc, by simp [Str.join, Str.length, Str.empty]⟩
  | [x], h => ⟨inn_one (h x (.head _)), by simp [Str.join, one_len (h x (.head _))]⟩
  | x :: y :: r, h => by
    obtain ⟨i1, i2⟩ := join_ones (y :: r) fun z hz => h z (.tail _ hz)
    have e : Str.join (Str.ofString "") (x :: y :: r) = x ++ Str.ofString "" ++ Str.join (Str.ofString "") (y :: r) := rfl
    have e0 : Inn (Str.ofString "") := by
      have : cl (Str.ofString "") = [] := by decide +kernel
      intro c hc; rw [this] at hc; simp at hc
    rw [e]
    refine ⟨inn_append (inn_append (inn_one (h x (.head _))) e0) i1, ?_⟩
    rw [len_append, len_append, i2, e_len, one_len (h x (.head _))]; simp; omega
theorem sum_ones : ∀ (l : List Str), (∀ y ∈ l, One y) → (l.map (·.length)).sum = l.length
  | [], _ => rfl
  | y :: r, h => by simp [sum_ones r fun z hz => h z (.tail _ hz), one_len (h y (.head _))]; omega
theorem okPart_of {x : Str} (hi : Inn x) (h1 : 1 ≤ x.length) (h2 : x.length ≤ 12) (h3 : x ≠ Str.ofString ".") (h4 : x ≠ Str.ofString "..") : okPart x = true := by
  unfold okPart
  rw [Bool.and_eq_true]
  refine ⟨decide_eq_true ⟨h3, h4, h1, h2⟩, ?_⟩
  rw [List.all_eq_true]
  intro c hc
  show (!(Builtin.Str.occurrences ALS ⟨#[c]⟩ 0 ALS.length 1).isEmpty) = true
  rw [StrLaws.found_one]
  exact decide_eq_true (hi c hc)
theorem strs_all {P : Str → Prop} : ∀ (ys : List V), (∀ (i : Nat) y, ys[i]? = some y → ∃ x, P x ∧ y = .str x) → ∃ xs : List Str, ys = xs.map .str ∧ ∀ x ∈ xs, P x
  | [], _ => ⟨[], rfl, by simp⟩
  | y :: r, h => by
    obtain ⟨x, hx, rfl⟩ := h 0 y rfl
    obtain ⟨xs, rfl, hxs⟩ := strs_all r fun i z e => h (i + 1) z (by simpa using e)
    exact ⟨x :: xs, rfl, by intro z hz; rcases List.mem_cons.mp hz with rfl | hz; exact hx; exact hxs z hz⟩
theorem cut_both {α : Type} (l : List α) {a b : Int} (h0 : 0 ≤ a) (h1 : a ≤ b) (h2 : b ≤ l.length) : pyCut l (some a) (some b) = (l.drop a.toNat).take (b - a).toNat := by
  unfold pyCut clip clipAt
  simp only [Option.elim]
  rw [if_neg (by omega), if_neg (by omega)]
  have e1 : (max 0 (min a (l.length : Int))).toNat = a.toNat := by omega
  have e2 : (max 0 (min b (l.length : Int))).toNat - a.toNat = (b - a).toNat := by omega
  rw [e1, e2]
theorem cut_map {α β : Type} (f : α → β) (l : List α) (lo hi : Option Int) : pyCut (l.map f) lo hi = (pyCut l lo hi).map f := by
  unfold pyCut; rw [List.length_map, List.map_take, List.map_drop]
theorem cut_sub {α : Type} {l : List α} {lo hi : Option Int} {x : α} (h : x ∈ pyCut l lo hi) : x ∈ l := List.mem_of_mem_drop (List.mem_of_mem_take h)
theorem cut_join {ns : List Int} {σ : View} {a : Addr} {xs : List Str} {lo hi : Option Int} {Q : V → View → Prop} (ha : σ a = some (.list (xs.map .str))) (hx : ∀ x ∈ xs, One x) (hl : xs.length ≤ 1000)
    (q : ∀ (x : Str) σ', Grow σ σ' → Inn x → x.length = (pyCut xs lo hi).length → Q (.str x) σ') : opCut ns lo hi (.ref a) σ fun v σ' => spJoin [.str (Str.ofString ""), v] σ' Q := by
  refine cut_list ha fun b hb => ?_
  rw [cut_map]
  have h1 : ∀ x ∈ pyCut xs lo hi, One x := fun x h => hx x (cut_sub h)
  have h2 := cut_len xs lo hi
  refine join_list (ys := pyCut xs lo hi) (upd_same _ _ _) (by rw [e_len, sum_ones _ h1]; omega) ?_
  exact q _ _ (Grow.refl.upd hb) (join_ones _ h1).1 (join_ones _ h1).2
theorem s_name (ns : List Int) : ∀ vs σ Q, sp__law_name_by ns vs σ Q → vs.length = 2 ∧ T__law_name_by ns (bindM ["_law_k", "_law_shift"] vs none') σ (fin Q) := by
  rintro vs σ Q ⟨kk, sh, rfl, q⟩
  refine ⟨rfl, ?_⟩
  unfold T__law_name_by
  rw [seq_eq]
  simp [T__law_name_by_1]
  have rest : ∀ (m : Loc) (sz : Int), 1 ≤ sz → sz ≤ 12 → m "_law_k" = some (.int kk) → m "_law_shift" = some (.int sh) → m "_law_size" = some (.int sz) →
      sSeq (T__law_name_by_3 ns) (sSeq (T__law_name_by_4 ns) (sSeq (T__law_name_by_5 ns) (sSeq (T__law_name_by_6 ns) (sSeq (T__law_name_by_7 ns) (sSeq (T__law_name_by_8 ns) (sSeq (T__law_name_by_9 ns) (sSeq (T__law_name_by_10 ns) sNil))))))) m σ (fin Q) := by
    intro m sz z1 z2 hk hs hz
    rw [seq_eq]
    simp [T__law_name_by_3, hs]
    generalize sh / 5 % 4 = wy
    rw [seq_eq]
    simp [T__law_name_by_4]
    refine compL_all (fun σ' => σ' = σ) (fun _ y => ∃ x, One x ∧ y = .str x) (fun _ _ => trivial) _ [] 0 _ _ (by simp [range_len]) ?_ rfl ?_
    · rintro i v hv σ' Q' rfl nx
      obtain ⟨hi, rfl⟩ := range_get hv
      refine ⟨_, rfl, ?_⟩
      simp [hk, hs]
      refine ⟨.inl (by unfold Short; decide), ⟨.inr (by unfold Short; split <;> decide), ?_⟩⟩
      exact nx _ _ rfl ⟨_, sign_one _, rfl⟩
    · rintro ys σ' rfl hl hys a ha
      obtain ⟨xs, rfl, hx⟩ := strs_all ys fun i y e => by simpa using hys i y e
      rw [List.length_map, range_len] at hl
      rw [List.nil_append]
      have xa := upd_same σ' a (.list (xs.map .str))
      have g0 : Grow σ' (upd σ' a (.list (xs.map .str))) := Grow.refl.upd ha
      generalize (upd σ' a (.list (xs.map .str))) = σ₁ at xa g0 ⊢
      rw [seq_eq]
      have c1 := Int.emod_nonneg (sh / 20) (b := sz) (by omega)
      have c2 := Int.emod_lt_of_pos (sh / 20) (b := sz) (by omega)
      simp [T__law_name_by_5, hs, hz]
      refine ⟨by omega, .inr (by unfold Short; split <;> decide), ?_⟩
      obtain ⟨at', hat, d1, d2⟩ : ∃ at', sh / 20 % sz * (if wy = 1 then 1 else 0) = at' ∧ 0 ≤ at' ∧ at' < sz := by
        refine ⟨_, rfl, ?_, ?_⟩
        · split <;> omega
        · split <;> omega
      rw [hat]
      rw [seq_eq]
      simp [T__law_name_by_6, hs, hk]
      intro b hb
      have hab : a ≠ b := by rintro rfl; rw [xa] at hb; cases hb
      have xa2 : upd σ₁ b (.list [.int 1, .int 26]) a = some (.list (xs.map .str)) := by rw [upd_ne hab]; exact xa
      have g1 := g0.upd (o := .list [.int 1, .int 26]) hb
      have xb := upd_same σ₁ b (.list [.int 1, .int 26])
      generalize (upd σ₁ b (.list [.int 1, .int 26])) = σ₂ at xa2 g1 xb ⊢
      have done : ∀ (m : Loc) (σ : View) (x : Str), Grow σ' σ → m "_law_name" = some (.str x) → Inn x → 1 ≤ x.length → x.length ≤ 12 → sSeq (T__law_name_by_9 ns) (sSeq (T__law_name_by_10 ns) sNil) m σ (fin Q) := by
        intro m σ x g hm hi l1 l2
        rw [seq_eq]
        simp [T__law_name_by_9, T__law_name_by_10, seq_eq, hm]
        have e0 : okPart (Str.ofString "0x") = true := by decide +kernel
        by_cases n1 : x = Str.ofString "."
        · simpa [n1] using q _ _ g e0
        by_cases n2 : x = Str.ofString ".."
        · simpa [n1, n2] using q _ _ g e0
        simpa [n1, n2] using q _ _ g (okPart_of hi l1 l2 n1 n2)
      have go : ∀ told, One told → sSeq (T__law_name_by_7 ns) (sSeq (T__law_name_by_8 ns) (sSeq (T__law_name_by_9 ns) (sSeq (T__law_name_by_10 ns) sNil)))
          (put (put (put (put m "_law_way" (.int wy)) "_law_rest" (.ref a)) "_law_at" (.int at')) "_law_told_here" (.str told)) σ₂ (fin Q) := by
        intro told ht
        rw [seq_eq]
        simp [T__law_name_by_7]
        refine cut_join xa2 hx (by omega) fun x1 σ₃ g3 i1 l1 => ?_
        rw [cut_take _ d1, List.length_take] at l1
        simp [hz]
        have tl := one_len ht
        refine ⟨by rw [tl]; omega, ?_⟩
        refine cut_join (g3 _ _ xa2) hx (by omega) fun x2 σ₄ g4 i2 l2 => ?_
        rw [cut_both _ d1 (by omega) (by omega), List.length_take, List.length_drop] at l2
        have tl2 := len_append x1 told
        simp
        refine ⟨by omega, ?_⟩
        have tl3 := len_append (x1 ++ told) x2
        have g5 := (g1.trans g3).trans g4
        have xa4 := g4 _ _ (g3 _ _ xa2)
        rw [seq_eq]
        simp [T__law_name_by_8, seq_eq]
        split
        · simp [hs, hk]
          refine cut_join xa4 hx (by omega) fun x3 σ₅ g6 i3 l3 => ?_
          have f1 := Int.emod_nonneg (sh / 65 + kk) (b := 12) (by decide)
          have f2 := Int.emod_lt_of_pos (sh / 65 + kk) (b := 12) (by decide)
          rw [cut_take _ (by omega), List.length_take] at l3
          refine done _ _ x3 (g5.trans g6) (by simp) i3 (by omega) (by omega)
        · exact done _ _ (x1 ++ told ++ x2) g5 (by simp) (inn_append (inn_append i1 (inn_one ht)) i2) (by omega) (by omega)
      by_cases w3 : wy = 3
      · simp [w3]
        refine item_list (v := .int 26) xb (by decide) rfl ?_
        simp
        refine ⟨.inr (by unfold Short; decide), ?_⟩
        have := go _ (sign_one (sh + kk * 26))
        simpa [w3] using this
      · simp [w3]
        refine item_list (v := .int 1) xb (by decide) rfl ?_
        simp
        refine ⟨.inr (by unfold Short; decide), ?_⟩
        have := go _ (sign_one (sh + kk))
        simpa [w3] using this
  rw [seq_eq]
  simp [T__law_name_by_2]
  have b1 := Int.emod_nonneg (sh / 195) (b := 12) (by decide)
  have b2 := Int.emod_lt_of_pos (sh / 195) (b := 12) (by decide)
  split
  · simp [seq_eq]
    exact rest _ (1 + sh / 195 % 12) (by omega) (by omega) (by simp) (by simp) (by simp)
  · exact rest _ 1 (by omega) (by omega) (by simp) (by simp) (by simp)
/- paths -/
theorem als_free : 47 ∉ cl ALS := by decide +kernel
theorem part_fr {x : Str} (h : okPart x = true) : Fr x := by
  unfold okPart at h
  rw [Bool.and_eq_true, List.all_eq_true] at h
  intro hc
  have := h.2 47 hc
  change (!(Builtin.Str.occurrences ALS ⟨#[47]⟩ 0 ALS.length 1).isEmpty) = true at this
  rw [StrLaws.found_one] at this
  exact als_free (of_decide_eq_true this)
theorem part_le {x : Str} (h : okPart x = true) : x.length ≤ 12 := by
  unfold okPart at h
  rw [Bool.and_eq_true] at h
  exact (of_decide_eq_true h.1).2.2.2
theorem okPath_join {xs : List Str} (h : ∀ x ∈ xs, okPart x = true) (h0 : xs ≠ []) (h8 : xs.length ≤ 8) : okPath (Str.join (Str.ofString "/") xs) = true := by
  unfold okPath
  rw [split_join (fun x hx => part_fr (h x hx)) h0, Bool.and_eq_true, List.all_eq_true]
  exact ⟨decide_eq_true h8, h⟩
theorem sum_le {n : Nat} : ∀ (l : List Str), (∀ y ∈ l, y.length ≤ n) → (l.map (·.length)).sum ≤ l.length * n
  | [], _ => by simp
  | y :: r, h => by
    have h1 := h y (.head _)
    have h2 := sum_le r fun z hz => h z (.tail _ hz)
    simp [Nat.add_mul]; omega
theorem comp_names {ns : List Int} {n : Nat} {m : Loc} {σ : View} {T : ET} {R : List V → View → Prop} (hn : n ≤ 8)
    (step : ∀ (j : Nat) σ' (Q' : V → View → Prop), j < n → Grow σ σ' → (∀ (x : Str) σ'', Grow σ' σ'' → okPart x = true → Q' (.str x) σ'') → T (put m "_law_j" (.int j)) σ' Q')
    (h : ∀ (xs : List Str) σ', Grow σ σ' → xs.length = n → (∀ x ∈ xs, okPart x = true) → R (xs.map .str) σ') :
    compL (Tgt.name "_law_j") (fun _ => True) tT T m (rangeL 0 n) [] σ R := by
  refine compL_all (Grow σ) (fun _ y => ∃ x, okPart x = true ∧ y = .str x) (fun _ _ => trivial) _ [] 0 _ _ (by simp [range_len]; omega) ?_ Grow.refl ?_
  · rintro i v hv σ' Q' g nx
    obtain ⟨hi, rfl⟩ := range_get hv
    refine ⟨_, rfl, ?_⟩
    rw [Int.zero_add]
    exact step i σ' Q' hi g fun x σ'' g' hx => nx _ _ (g.trans g') ⟨x, hx, rfl⟩
  · rintro ys σ' g hl hys
    obtain ⟨xs, rfl, hx⟩ := strs_all ys fun i y e => by simpa using hys i y e
    rw [List.length_map, range_len] at hl
    exact h xs σ' g hl hx
theorem s_pathby (ns : List Int) : ∀ vs σ Q, sp__law_path_by ns vs σ Q → vs.length = 2 ∧ T__law_path_by ns (bindM ["_law_cell", "_law_shift"] vs none') σ (fin Q) := by
  rintro vs σ Q ⟨c, sh, rfl, q⟩
  refine ⟨rfl, ?_⟩
  unfold T__law_path_by
  have last : ∀ (m : Loc) (σ' : View) (a : Addr) (xs : List Str), Grow σ σ' → m "_law_parts" = some (.ref a) → σ' a = some (.list (xs.map .str)) → xs ≠ [] → xs.length ≤ 8 → (∀ x ∈ xs, okPart x = true) → sSeq (T__law_path_by_4 ns) sNil m σ' (fin Q) := by
    intro m σ' a xs g hm ha h0 h8 hx
    have hs := sum_le xs fun y hy => part_le (hx y hy)
    have hj := join_len_le xs
    unfold joinLen at hj
    rw [seq_eq]
    simp [T__law_path_by_4, hm]
    refine join_list ha (by rw [sl_len]; omega) ?_
    exact q _ _ g (okPath_join hx h0 h8) (by omega)
  have tail : ∀ (m : Loc) (σ' : View) (a : Addr) (xs : List Str), Grow σ σ' → m "_law_cell" = some (.int c) → m "_law_shift" = some (.int sh) → m "_law_parts" = some (.ref a) → σ' a = some (.list (xs.map .str)) → xs ≠ [] → xs.length ≤ 3 → (∀ x ∈ xs, okPart x = true) →
      sSeq (T__law_path_by_3 ns) (sSeq (T__law_path_by_4 ns) sNil) m σ' (fin Q) := by
    intro m σ' a xs g hc hs hp ha h0 h3 hx
    rw [seq_eq]
    simp [T__law_path_by_3, hs]
    split
    · rw [seq_eq]
      have f1 := Int.emod_nonneg (sh / 7) (b := 5) (by decide)
      have f2 := Int.emod_lt_of_pos (sh / 7) (b := 5) (by decide)
      simp [hs]
      refine ⟨⟨by omega, by omega⟩, ?_⟩
      refine comp_names (ns := ns) (by omega) ?_ ?_
      · intro j σ₁ Q' hj g1 nx
        simp [hs]
        intro x σ₂ g2 hx2
        exact nx x σ₂ g2 hx2
      · intro ys σ₁ g1 hyl hy b hb
        simp [seq_eq, hp]
        have hab : a ≠ b := by rintro rfl; rw [g1 _ _ ha] at hb; cases hb
        refine add_list (upd_same _ _ _) (by rw [upd_ne hab]; exact g1 _ _ ha) (by simp; omega) fun d hd => ?_
        rw [← List.map_append]
        have hall : ∀ x ∈ ys ++ xs, okPart x = true := fun x h => (List.mem_append.mp h).elim (hy x) (hx x)
        have gd := ((g.trans g1).upd (o := .list (ys.map .str)) hb).upd (o := .list ((ys ++ xs).map .str)) hd
        have xd := upd_same (upd σ₁ b (.list (ys.map .str))) d (.list ((ys ++ xs).map .str))
        generalize (upd (upd σ₁ b (.list (ys.map .str))) d (.list ((ys ++ xs).map .str))) = σ₂ at gd xd ⊢
        have hne : ys ++ xs ≠ [] := by simp [h0]
        have hlen : (ys ++ xs).length ≤ 8 := by simp; omega
        generalize ys ++ xs = zs at hall xd hne hlen ⊢
        simp [seq_eq, hc]
        split
        · simp [len_list xd, hc]
          have hpos : 0 < zs.length := List.length_pos_iff.mpr hne
          have k1 := Int.emod_nonneg (c / 13) (b := (zs.length : Int)) (by omega)
          refine ⟨by omega, cut_list xd fun e he => ?_⟩
          rw [cut_take _ (by omega), ← List.map_take]
          have := last (put (put (put m "_law_ahead" (.ref b)) "_law_parts" (.ref d)) "_law_parts" (.ref e)) (upd σ₂ e (.list ((zs.take (1 + c / 13 % zs.length).toNat).map .str))) e _ (gd.upd he) (by simp) (upd_same _ _ _)
            (by intro e; have := congrArg List.length e; rw [List.length_take, List.length_nil] at this; omega) (by rw [List.length_take]; omega) (fun x h => hall x (List.mem_of_mem_take h))
          simpa [seq_eq] using this
        · have := last (put (put m "_law_ahead" (.ref b)) "_law_parts" (.ref d)) σ₂ d zs gd (by simp) xd hne hlen hall
          simpa [seq_eq] using this
    · have := last m σ' a xs g hp ha h0 (by omega) hx
      simpa [seq_eq] using this
  rw [seq_eq]
  simp [T__law_path_by_1]
  intro a ha
  have m1 := Int.emod_nonneg c (b := 5) (by decide)
  have m2 := Int.emod_lt_of_pos c (b := 5) (by decide)
  have mid : ∀ (dp : Int) (σ' : View), 1 ≤ dp → dp ≤ 3 → Grow σ σ' → sSeq (T__law_path_by_2 ns) (sSeq (T__law_path_by_3 ns) (sSeq (T__law_path_by_4 ns) sNil)) (put (put (put none' "_law_cell" (.int c)) "_law_shift" (.int sh)) "_law_depth" (.int dp)) σ' (fin Q) := by
    intro dp σ' d1 d2 g
    rw [seq_eq]
    simp [T__law_path_by_2]
    refine ⟨⟨by omega, by omega⟩, ?_⟩
    refine comp_names (ns := ns) (by omega) ?_ ?_
    · intro j σ₁ Q' hj g1 nx
      simp
      intro b hb
      have hj3 : j = 0 ∨ j = 1 ∨ j = 2 := by omega
      rcases hj3 with rfl | rfl | rfl
      · refine item_list (v := .int 1) (upd_same _ _ _) (by decide) rfl ?_
        simp
        intro x σ₂ g2 hx
        exact nx x σ₂ ((Grow.refl.upd hb).trans g2) hx
      · refine item_list (v := .int 3) (upd_same _ _ _) (by decide) rfl ?_
        simp
        intro x σ₂ g2 hx
        exact nx x σ₂ ((Grow.refl.upd hb).trans g2) hx
      · refine item_list (v := .int 9) (upd_same _ _ _) (by decide) rfl ?_
        simp
        intro x σ₂ g2 hx
        exact nx x σ₂ ((Grow.refl.upd hb).trans g2) hx
    · intro xs σ₁ g1 hl hx b hb
      exact tail _ _ b xs ((g.trans g1).upd hb) (by simp) (by simp) (by simp) (upd_same _ _ _) (by rintro rfl; simp at hl; omega) (by omega) hx
  generalize c % 5 = r at m1 m2 ⊢
  have hr : r = 0 ∨ r = 1 ∨ r = 2 ∨ r = 3 ∨ r = 4 := by omega
  rcases hr with rfl | rfl | rfl | rfl | rfl
  · exact item_list (v := .int 1) (upd_same _ _ _) (by decide) rfl (mid 1 _ (by decide) (by decide) (Grow.refl.upd ha))
  · exact item_list (v := .int 1) (upd_same _ _ _) (by decide) rfl (mid 1 _ (by decide) (by decide) (Grow.refl.upd ha))
  · exact item_list (v := .int 2) (upd_same _ _ _) (by decide) rfl (mid 2 _ (by decide) (by decide) (Grow.refl.upd ha))
  · exact item_list (v := .int 2) (upd_same _ _ _) (by decide) rfl (mid 2 _ (by decide) (by decide) (Grow.refl.upd ha))
  · exact item_list (v := .int 3) (upd_same _ _ _) (by decide) rfl (mid 3 _ (by decide) (by decide) (Grow.refl.upd ha))
/- lines -/
theorem join_e_len : ∀ (l : List Str), (∀ y ∈ l, y.length = 1) → (Str.join (Str.ofString "") l).length = l.length
  | [], _ => by simp [Str.join, Str.length, Str.empty]
  | [x], h => by simp [Str.join, h x (.head _)]
  | x :: y :: r, h => by
    have ih := join_e_len (y :: r) fun z hz => h z (.tail _ hz)
    have e : Str.join (Str.ofString "") (x :: y :: r) = x ++ Str.ofString "" ++ Str.join (Str.ofString "") (y :: r) := rfl
    rw [e, len_append, len_append, ih, e_len, h x (.head _)]; simp; omega
theorem sum_e : ∀ (l : List Str), (∀ y ∈ l, y.length = 1) → (l.map (·.length)).sum = l.length
  | [], _ => rfl
  | y :: r, h => by simp [sum_e r fun z hz => h z (.tail _ hz), h y (.head _)]; omega
theorem line_go {ns : List Int} {σ : View} {m : Loc} {n kk sh : Int} {Q : V → View → Prop} (n1 : 0 ≤ n) (n2 : n ≤ 700) (hk : m "_law_k" = some (.int kk)) (hs : m "_law_shift" = some (.int sh))
    (ho : m "_law_some" = some (.str (Str.ofString " !\"#$&'()*+,-./0123456789:;<=>?@ABCDEFGHIJKLMNOPQRSTUVWXYZ[\\]^_`" ++ Str.ofString "abcdefghijklmnopqrstuvwxyz{|}~\n\t"))) (q : ∀ (x : Str) σ', Grow σ σ' → x.length ≤ 1000 → Q (.str x) σ') :
    compL (Tgt.name "_law_j") (fun _ => True) tT (eBin (opItem ns) (eName "_law_some") (eBin opMod (eBin opAdd (eBin opAdd (eName "_law_shift") (eBin opMul (eVal (.int 5)) (eName "_law_k"))) (eName "_law_j")) (eVal (.int 96))))
        (only ["_law_some", "_law_shift", "_law_k"] m) (rangeL 0 n.toNat) [] σ fun ys σ'' => newL ys σ'' fun v σ₁ => spJoin [.str (Str.ofString ""), v] σ₁ Q := by
  refine compL_all (fun s => s = σ) (fun _ y => ∃ x : Str, x.length = 1 ∧ y = .str x) (fun _ _ => trivial) _ [] 0 _ _ (by simp [range_len]; omega) ?_ rfl ?_
  · rintro i v hv s Q' rfl nx
    obtain ⟨hi, rfl⟩ := range_get hv
    refine ⟨_, rfl, ?_⟩
    simp [ho, hs, hk]
    refine ⟨.inl (by unfold Short; decide), ?_⟩
    exact item_mod (by decide +kernel) (by decide) (by decide +kernel) fun y hy => nx _ _ rfl ⟨y, hy, rfl⟩
  · rintro ys s rfl hl hys b hb
    obtain ⟨xs, rfl, hx⟩ := strs_all ys fun i y e => by simpa using hys i y e
    rw [List.length_map, range_len] at hl
    rw [List.nil_append]
    refine join_list (ys := xs) (upd_same _ _ _) (by rw [e_len, sum_e xs hx]; omega) ?_
    exact q _ _ (Grow.refl.upd hb) (by rw [join_e_len xs hx]; omega)
theorem s_line (ns : List Int) : ∀ vs σ Q, sp__law_line_by ns vs σ Q → vs.length = 2 ∧ T__law_line_by ns (bindM ["_law_k", "_law_shift"] vs none') σ (fin Q) := by
  rintro vs σ Q ⟨kk, sh, rfl, q⟩
  refine ⟨rfl, ?_⟩
  unfold T__law_line_by
  rw [seq_eq]
  simp [T__law_line_by_1]
  rw [seq_eq]
  simp [T__law_line_by_2]
  refine ⟨by decide +kernel, ?_⟩
  rw [seq_eq]
  simp [T__law_line_by_3]
  have m1 := Int.emod_nonneg kk (b := 4) (by decide)
  have m2 := Int.emod_lt_of_pos kk (b := 4) (by decide)
  have b1 := Int.emod_nonneg sh (b := 60) (by decide)
  have b2 := Int.emod_lt_of_pos sh (b := 60) (by decide)
  have b3 := Int.emod_nonneg (sh / 240) (b := 600) (by decide)
  have b4 := Int.emod_lt_of_pos (sh / 240) (b := 600) (by decide)
  have last : ∀ (m : Loc) (n : Int), 0 ≤ n → n ≤ 700 → m "_law_long" = some (.int n) → m "_law_k" = some (.int kk) → m "_law_shift" = some (.int sh) →
      m "_law_some" = some (.str (Str.ofString " !\"#$&'()*+,-./0123456789:;<=>?@ABCDEFGHIJKLMNOPQRSTUVWXYZ[\\]^_`" ++ Str.ofString "abcdefghijklmnopqrstuvwxyz{|}~\n\t")) → sSeq (T__law_line_by_5 ns) sNil m σ (fin Q) := by
    intro m n l1 l2 hz hk hs ho
    rw [seq_eq]
    simp [T__law_line_by_5, hz]
    intro a ha
    simp [hk]
    have fin : ∀ v : Int, 0 ≤ v → v ≤ 700 → ([V.int 0, .int 1, .int 2, .int n])[(kk % 4).toNat]? = some (.int v) → opItem ns (.ref a) (.int (kk % 4)) (upd σ a (.list [.int 0, .int 1, .int 2, .int n])) fun v' σ' => rangeOf [v'] σ' fun items inv σ' => compL (Tgt.name "_law_j") inv tT (eBin (opItem ns) (eName "_law_some") (eBin opMod (eBin opAdd (eBin opAdd (eName "_law_shift") (eBin opMul (eVal (.int 5)) (eName "_law_k"))) (eName "_law_j")) (eVal (.int 96))))
        (only ["_law_some", "_law_shift", "_law_k"] m) items [] σ' fun ys σ'' => newL ys σ'' fun v σ₁ => spJoin [.str (Str.ofString ""), v] σ₁ Q := by
      intro v v1 v2 hv
      refine item_list (v := .int v) (upd_same _ _ _) m1 hv ?_
      simp only [range_1]
      refine ⟨⟨by omega, by omega⟩, ?_⟩
      exact line_go v1 v2 hk hs ho fun x σ'' g' hx => q x σ'' ((Grow.refl.upd ha).trans g') hx
    have hr : kk % 4 = 0 ∨ kk % 4 = 1 ∨ kk % 4 = 2 ∨ kk % 4 = 3 := by omega
    rcases hr with hr | hr | hr | hr
    · exact fin 0 (by decide) (by decide) (by rw [hr]; rfl)
    · exact fin 1 (by decide) (by decide) (by rw [hr]; rfl)
    · exact fin 2 (by decide) (by decide) (by rw [hr]; rfl)
    · exact fin n l1 l2 (by rw [hr]; rfl)
  rw [seq_eq]
  simp [T__law_line_by_4]
  split
  · rw [seq_eq]
    simp
    exact last _ (3 + sh / 240 % 600) (by omega) (by omega) (by simp) (by simp) (by simp) (by simp)
  · exact last _ (3 + sh % 60) (by omega) (by omega) (by simp) (by simp) (by simp) (by simp)
end Mine


end
noncomputable section
set_option autoImplicit false
set_option maxRecDepth 10000
set_option linter.unusedVariables false
set_option linter.unusedSimpArgs false
namespace Mine
open PySem PySem.W PyProof.Rows PySem.Calls
theorem Grow.over {σ σ' : View} {b : Addr} {o : AObj} (g : Grow σ σ') (hb : σ b = Option.none) : Grow σ (Mine.upd σ' b o) := fun c o' e => by
  rw [upd_ne (by rintro rfl; rw [hb] at e; cases e)]; exact g c o' e
section
variable {ns : List Int} {σ : View} {Q : V → View → Prop}
theorem sp_free {a : Addr} {x : Str} {kvs : List (Str × V)} {ep : Nat} (h : σ a = some (.dict kvs ep)) (hk : ∀ q ∈ kvs, q.1.length ≤ 300) (hx : x.length ≤ 1000) (q : Q (.bool (isFree (keysOf kvs) x)) σ) : sp__law_is_free ns [.ref a, .str x] σ Q := ⟨a, kvs, ep, x, rfl, h, hk, hx, q⟩
end
theorem key_at {kvs : List (Str × V)} {i : Nat} {v : V} (h : (kvs.map fun q => V.str q.1)[i]? = some v) : ∃ y, (keysOf kvs)[i]? = some y ∧ v = .str y := by
  rw [List.getElem?_map] at h
  obtain ⟨q, hq, rfl⟩ := Option.map_eq_some_iff.mp h
  exact ⟨q.1, by unfold keysOf; rw [List.getElem?_map, hq]; rfl, rfl⟩
theorem s_free (ns : List Int) : ∀ vs σ Q, sp__law_is_free ns vs σ Q → vs.length = 2 ∧ T__law_is_free ns (bindM ["_law_tree", "_law_path"] vs none') σ (fin Q) := by
  rintro vs σ Q ⟨a, kvs, ep, x, rfl, ha, hk, hx, q⟩
  refine ⟨rfl, ?_⟩
  unfold T__law_is_free
  rw [seq_eq]
  simp [T__law_is_free_1, iter_dict ha]
  refine forL_inv (fun i m σ' => σ' = σ ∧ m "_law_path" = some (.str x) ∧ ((keysOf kvs).take i).all (fun y => !(Txt.startswith y (x ++ Str.ofString "/") || Txt.startswith x (y ++ Str.ofString "/"))) = true) (fun u m σ' => σ' = σ ∧ u = .bool false ∧ isFree (keysOf kvs) x = false)
    (fun i m σ' h => by rw [h.1]; exact ha) _ ?_ ?_ ?_ _ _ ⟨rfl, by simp, by simp⟩
  · rintro i v m σ' Q' hv ⟨rfl, hm, h⟩ n1 n2 n3
    obtain ⟨y, hy, rfl⟩ := key_at hv
    have hyl : y.length ≤ 300 := by
      have := List.mem_of_getElem? hy
      obtain ⟨p, hp, rfl⟩ := List.mem_map.mp this
      exact hk p hp
    refine ⟨_, rfl, ?_⟩
    simp [seq_eq, hm]
    refine ⟨by rw [sl_len]; omega, ?_⟩
    have bad : (Txt.startswith y (x ++ Str.ofString "/") || Txt.startswith x (y ++ Str.ofString "/")) = true → isFree (keysOf kvs) x = false := fun e => by
      unfold isFree
      rw [List.all_eq_false]
      exact ⟨y, List.mem_of_getElem? hy, by rw [e]; simp⟩
    split
    · rename_i e
      exact n3 _ _ _ ⟨rfl, rfl, bad (by rw [e]; rfl)⟩
    · rename_i e
      refine ⟨by rw [sl_len]; omega, ?_⟩
      split
      · rename_i e2
        exact n3 _ _ _ ⟨rfl, rfl, bad (by rw [e2, Bool.or_true])⟩
      · rename_i e2
        refine n1 _ _ ⟨rfl, by simp [hm], ?_⟩
        rw [List.take_add_one, hy, List.all_append, h]
        simp [e, e2]
  · rintro m σ' ⟨rfl, hm, h⟩
    rw [List.length_map] at h
    have : (keysOf kvs).take kvs.length = keysOf kvs := List.take_of_length_le (by simp [keysOf])
    rw [this] at h
    have e : isFree (keysOf kvs) x = true := h
    rw [e] at q
    simpa [seq_eq, T__law_is_free_2] using q
  · rintro u m σ' ⟨rfl, rfl, h⟩
    rw [h] at q
    simpa using q
theorem Tr.mono {n n' : Nat} {kvs : List (Str × V)} (h : Tr n kvs) (hn : n ≤ n') : Tr n' kvs := { h with len := Nat.le_trans h.len hn }
theorem Tr.put {n : Nat} {kvs : List (Str × V)} (h : Tr n kvs) {x y : Str} (hx : x.length ≤ 300) (ho : okPath x = true) : Tr (n + 1) (vstored kvs x (.str y)) :=
  ⟨Nat.le_trans (vstored_len kvs x _) (Nat.succ_le_succ h.len), fun q hq => (vstored_mem hq).elim (fun e => by rw [e]; exact hx) (h.key q), fun q hq => (vstored_mem hq).elim (fun e => by rw [e]; exact ho) (h.ok q), fun q hq => (vstored_mem hq).elim (fun e => by rw [e]; exact ⟨y, rfl⟩) (h.val q), vstored_nodup h.nodup⟩
theorem tops_len : ∀ j : Nat, j < 170 → (Str.ofString "tops" ++ Str.ofString ((j : Int).repr)).length ≤ 12 := by decide +kernel
theorem x_len : (Str.ofString "/x").length = 2 := by decide +kernel
theorem s_ben (ns : List Int) : ∀ vs σ Q, sp_is_beneath ns vs σ Q → vs.length = 2 ∧ T_is_beneath ns (bindM ["path", "upper"] vs none') σ (fin Q) := by
  rintro vs σ Q ⟨x, y, rfl, hy, q⟩
  refine ⟨rfl, ?_⟩
  unfold T_is_beneath
  rw [seq_eq]
  simp [T_is_beneath_1]
  exact ⟨by rw [sl_len]; omega, q⟩
theorem cut_put : Str.ofString "put" ≠ Str.ofString "cut" := by decide
theorem deed1 (ns : List Int) {cu : Bool} {x l : Str} {σ : View} {Q : V → View → Prop} (q : Q (.str x) σ) : opItem ns (deedOf cu x l) (.int 1) σ Q := by
  cases cu
  · exact ⟨by show 3 < 16777217; decide, 1, _, rfl, rfl, q⟩
  · exact ⟨by show 2 < 16777217; decide, 1, _, rfl, rfl, q⟩
theorem deed0 (ns : List Int) {cu : Bool} {x l : Str} {σ : View} {Q : V → View → Prop} (q : Q (.str (if cu then Str.ofString "cut" else Str.ofString "put")) σ) : opItem ns (deedOf cu x l) (.int 0) σ Q := by
  cases cu
  · exact ⟨by show 3 < 16777217; decide, 0, _, rfl, rfl, q⟩
  · exact ⟨by show 2 < 16777217; decide, 0, _, rfl, rfl, q⟩
theorem s_done (ns : List Int) : ∀ vs σ Q X, sp_done ns vs σ Q X → vs.length = 2 ∧ T_done ns (bindM ["tree", "deed"] vs none') σ (fin Q) (fun c _ σ' => X c σ') := by
  rintro vs σ Q X ⟨a, kvs, ep, cu, x, l, rfl, ha, ht, hx, q⟩
  refine ⟨rfl, ?_⟩
  have len := ht.len
  unfold T_done
  rw [xseq_eq]
  simp [T_done_1]
  refine deed1 ns ?_
  rw [xseq_eq]
  simp [T_done_2, hx]
  intro σ₁ g1
  cases hk : okPath x with
  | false =>
    rw [show outc kvs cu x l = .inl "NoPath" from by unfold outc; rw [if_pos hk]] at q
    simp [xseq_eq]
    exact q σ₁ g1
  | true =>
    simp
    rw [xseq_eq]
    simp [T_done_3]
    have ha1 := g1 _ _ ha
    refine dictc_dict ha1 fun b eb hb => ?_
    have hbn := g1.none hb
    have xb := upd_same σ₁ b (.dict kvs eb)
    have g2 : Grow σ (upd σ₁ b (.dict kvs eb)) := g1.upd hb
    have ha2 : upd σ₁ b (.dict kvs eb) a = some (.dict kvs ep) := by rw [upd_ne (by rintro rfl; rw [ha1] at hb; cases hb)]; exact ha1
    generalize (upd σ₁ b (.dict kvs eb)) = σ₂ at xb g2 ha2 ⊢
    show xSeq _ _ _ _ _ _
    rw [xseq_eq]
    simp [T_done_4]
    refine deed0 ns ?_
    cases cu with
    | true =>
      simp
      rw [xseq_eq]
      simp
      refine notin_dict xb ?_
      rw [vget_isSome]
      by_cases hin : x ∈ keysOf kvs
      · have hin' : x ∈ kvs.map (·.1) := hin
        rw [show outc kvs true x l = .inr (vout kvs x) from by unfold outc; rw [if_neg (by rw [hk]; decide), if_pos rfl, if_pos hin]] at q
        simp only [decide_eq_true hin', Bool.not_true]
        simp [seq_eq, tyDict_ref xb]
        obtain ⟨v, hv, _⟩ := vget_mem hin'
        refine pop_dict xb hv fun ep' => ?_
        exact q b ep' _ (g2.over hbn) hbn (upd_same _ _ _)
      · have hin' : x ∉ kvs.map (·.1) := hin
        rw [show outc kvs true x l = .inl "NoFile" from by unfold outc; rw [if_neg (by rw [hk]; decide), if_pos rfl, if_neg hin]] at q
        simp only [decide_eq_false hin', Bool.not_false]
        simp [xseq_eq]
        exact q σ₂ g2
    | false =>
      simp [cut_put]
      rw [xseq_eq]
      simp [T_done_5, iter_dict ha2]
      have hlen := ht.key
      refine xforL_inv (fun i m σ' => σ' = σ₂ ∧ m "path" = some (.str x) ∧ m "fresh" = some (.ref b) ∧ m "deed" = some (deedOf false x l) ∧ ((keysOf kvs).take i).all (fun y => !(Txt.startswith y (x ++ Str.ofString "/") || Txt.startswith x (y ++ Str.ofString "/"))) = true)
        (fun i m σ' h => by rw [h.1]; exact ha2) _ ?_ ?_ _ _ ⟨rfl, by simp, by simp, by simp, by simp⟩
      · rintro i v m σ' Q' hv ⟨rfl, hm, hf, hd, h⟩ n1
        obtain ⟨y, hy, rfl⟩ := key_at hv
        have hyl : y.length ≤ 300 := by
          have := List.mem_of_getElem? hy
          obtain ⟨p, hp, rfl⟩ := List.mem_map.mp this
          exact hlen p hp
        refine ⟨_, rfl, ?_⟩
        have bad : (Txt.startswith y (x ++ Str.ofString "/") || Txt.startswith x (y ++ Str.ofString "/")) = true → X "InTheWay" σ' := fun e => by
          have hfree : isFree (keysOf kvs) x = false := by
            unfold isFree
            rw [List.all_eq_false]
            exact ⟨y, List.mem_of_getElem? hy, by rw [e]; simp⟩
          rw [show outc kvs false x l = .inl "InTheWay" from by unfold outc; rw [if_neg (by rw [hk]; decide), if_neg (by decide), hfree]; rfl] at q
          exact q σ' g2
        simp [xseq_eq, hm]
        refine ⟨by omega, ?_⟩
        split
        · rename_i e
          exact bad (by rw [e, Bool.or_true])
        · rename_i e
          refine ⟨by omega, ?_⟩
          split
          · rename_i e2
            exact bad (by rw [e2]; rfl)
          · rename_i e2
            refine n1 _ _ ⟨rfl, by simp [hm], by simp [hf], by simp [hd], ?_⟩
            rw [List.take_add_one, hy, List.all_append, h]
            simp [e, e2]
      · rintro m σ' ⟨rfl, hm, hf, hd, h⟩
        rw [List.length_map] at h
        have : (keysOf kvs).take kvs.length = keysOf kvs := List.take_of_length_le (by simp [keysOf])
        rw [this] at h
        have hfree : isFree (keysOf kvs) x = true := h
        rw [show outc kvs false x l = .inr (vstored kvs x (.str l)) from by unfold outc; rw [if_neg (by rw [hk]; decide), if_neg (by decide), if_pos hfree]] at q
        rw [xkont_next, xP_eq, seq_eq]
        simp [T_done_6, hd, hf, hm]
        refine ⟨by show 3 < 16777217; decide, 2, _, rfl, rfl, ?_⟩
        refine set_dict xb (by omega) fun ep' => ?_
        rw [seq_eq]
        simp [T_done_7, hf]
        exact q b ep' _ (g2.over hbn) hbn (upd_same _ _ _)
end Mine


end
noncomputable section
set_option autoImplicit false
set_option maxRecDepth 10000
set_option linter.unusedVariables false
set_option linter.unusedSimpArgs false
namespace Mine
open PySem PySem.W PyProof.Rows PySem.Calls
theorem outc_cs {kvs : List (Str × V)} {cu : Bool} {x l : Str} {c : String} (h : outc kvs cu x l = .inl c) : c = "NoPath" ∨ c = "NoFile" ∨ c = "InTheWay" := by
  unfold outc at h
  split at h
  · cases h; exact .inl rfl
  · split at h
    · split at h
      · cases h
      · cases h; exact .inr (.inl rfl)
    · split at h
      · cases h
      · cases h; exact .inr (.inr rfl)
theorem fit_comp {σ : View} {inv : View → Prop} {m : Loc} {Q : List V → View → Prop} (hi : inv σ) : ∀ (l : List (Str × Bool)) (acc : List V), acc.length + l.length ≤ 1000 → Q (acc ++ (l.filter (·.2)).map fun p => .str p.1) σ →
    compL (.tup ["_law_word", "_law_fits"]) inv (tBool (eName "_law_fits")) (eName "_law_word") m (l.map fun p => .tup [.str p.1, .bool p.2]) acc σ Q
  | [], acc, _, q => by simp [compL]; exact ⟨hi, by simpa using q⟩
  | (w, b) :: r, acc, hl, q => by
    simp only [List.map_cons, compL]
    refine ⟨hi, _, rfl, ?_⟩
    cases b with
    | true =>
      simp
      simp at hl
      exact ⟨by omega, fit_comp hi r (acc ++ [.str w]) (by simp; omega) (by simpa using q)⟩
    | false =>
      simp
      simp at hl
      exact fit_comp hi r _ (by omega) (by simpa using q)
theorem s_told (ns : List Int) (ad : String → Addr) : ∀ vs σ Q X, sp__law_told ns vs σ Q X → vs.length = 2 ∧ T__law_told ns ad (bindM ["_law_tree", "_law_deed"] vs none') σ (fin Q) (fun c _ σ' => X c σ') := by
  rintro vs σ Q X ⟨a, kvs, ep, cu, x, l, rfl, ha, ht, hx, q⟩
  refine ⟨rfl, ?_⟩
  unfold T__law_told
  rw [xseq_eq]
  simp [T__law_told_1, xseq_eq]
  refine ⟨a, kvs, ep, cu, x, l, rfl, ha, ht, hx, ?_⟩
  cases ho : outc kvs cu x l with
  | inr k2 =>
    rw [ho] at q
    intro b ep' σ' g hb hd
    exact q b ep' σ' g hb hd
  | inl c =>
    rw [ho] at q
    intro σ' g
    have hc := outc_cs ho
    refine ⟨by rcases hc with rfl | rfl | rfl <;> decide, fun e he => ?_⟩
    rw [seq_eq]
    simp
    intro d1 h1
    have g1 : Grow σ' (upd σ' d1 (.list [.tup [.str (Str.ofString "NoPath"), .bool (subX c "NoPath")], .tup [.str (Str.ofString "NoFile"), .bool (subX c "NoFile")]])) := Grow.refl.upd h1
    have x1 := upd_same σ' d1 (.list [.tup [.str (Str.ofString "NoPath"), .bool (subX c "NoPath")], .tup [.str (Str.ofString "NoFile"), .bool (subX c "NoFile")]])
    generalize (upd σ' d1 (.list [.tup [.str (Str.ofString "NoPath"), .bool (subX c "NoPath")], .tup [.str (Str.ofString "NoFile"), .bool (subX c "NoFile")]])) = σ₁ at g1 x1 ⊢
    rw [seq_eq]
    simp
    intro d2 h2
    generalize hs2 : upd σ₁ d2 _ = σ₂
    have g2 : Grow σ₁ σ₂ := by rw [← hs2]; exact Grow.refl.upd h2
    have x2 : σ₂ d2 = some (.list [.tup [.str (Str.ofString "InTheWay"), .bool (subX c "InTheWay")], .tup [.str (Str.ofString "NoClash"), .bool (subX c "NoClash")]]) := by rw [← hs2, upd_same]
    refine add_list (g2 _ _ x1) x2 (by simp) fun d3 h3 => ?_
    generalize hs3 : upd σ₂ d3 _ = σ₃
    have g3 : Grow σ₂ σ₃ := by rw [← hs3]; exact Grow.refl.upd h3
    have x3 : σ₃ d3 = some (.list ([.tup [.str (Str.ofString "NoPath"), .bool (subX c "NoPath")], .tup [.str (Str.ofString "NoFile"), .bool (subX c "NoFile")]] ++ [.tup [.str (Str.ofString "InTheWay"), .bool (subX c "InTheWay")], .tup [.str (Str.ofString "NoClash"), .bool (subX c "NoClash")]])) := by rw [← hs3, upd_same]
    rw [seq_eq]
    simp
    intro d4 h4
    generalize hs4 : upd σ₃ d4 _ = σ₄
    have g4 : Grow σ₃ σ₄ := by rw [← hs4]; exact Grow.refl.upd h4
    have x4 : σ₄ d4 = some (.list [.tup [.str (Str.ofString "Clashed"), .bool (subX c "Clashed")], .tup [.str (Str.ofString "NoVersion"), .bool (subX c "NoVersion")]]) := by rw [← hs4, upd_same]
    refine add_list (g4 _ _ x3) x4 (by simp) fun d5 h5 => ?_
    generalize hs5 : upd σ₄ d5 _ = σ₅
    have g5 : Grow σ₄ σ₅ := by rw [← hs5]; exact Grow.refl.upd h5
    have x5 : σ₅ d5 = some (.list (([.tup [.str (Str.ofString "NoPath"), .bool (subX c "NoPath")], .tup [.str (Str.ofString "NoFile"), .bool (subX c "NoFile")]] ++ [.tup [.str (Str.ofString "InTheWay"), .bool (subX c "InTheWay")], .tup [.str (Str.ofString "NoClash"), .bool (subX c "NoClash")]]) ++ [.tup [.str (Str.ofString "Clashed"), .bool (subX c "Clashed")], .tup [.str (Str.ofString "NoVersion"), .bool (subX c "NoVersion")]])) := by rw [← hs5, upd_same]
    rw [seq_eq]
    simp
    intro d6 h6
    generalize hs6 : upd σ₅ d6 _ = σ₆
    have g6 : Grow σ₅ σ₆ := by rw [← hs6]; exact Grow.refl.upd h6
    have x6 : σ₆ d6 = some (.list [.tup [.str (Str.ofString "SameVersion"), .bool (subX c "SameVersion")]]) := by rw [← hs6, upd_same]
    refine add_list (g6 _ _ x5) x6 (by simp) fun d7 h7 => ?_
    generalize hs7 : upd σ₆ d7 _ = σ₇
    have g7 : Grow σ₆ σ₇ := by rw [← hs7]; exact Grow.refl.upd h7
    have x7 : σ₇ d7 = some (.list ([(Str.ofString "NoPath", subX c "NoPath"), (Str.ofString "NoFile", subX c "NoFile"), (Str.ofString "InTheWay", subX c "InTheWay"), (Str.ofString "NoClash", subX c "NoClash"), (Str.ofString "Clashed", subX c "Clashed"), (Str.ofString "NoVersion", subX c "NoVersion"), (Str.ofString "SameVersion", subX c "SameVersion")].map fun p => .tup [.str p.1, .bool p.2])) := by rw [← hs7, upd_same]; rfl
    rw [seq_eq]
    simp only [sRet_eq, eTup_eq, lCons_eq, eMeth_eq, eVal_eq, tyStr_str, eComp_eq, iList_eq, eName_eq, lNil_eq]
    refine ⟨trivial, .ref d7, by simp, d7, _, rfl, x7, ?_⟩
    refine fit_comp x7 _ [] (by show 7 ≤ 1000; decide) ?_
    intro d8 h8
    generalize hs8 : upd σ₇ d8 _ = σ₈
    have g8 : Grow σ₇ σ₈ := by rw [← hs8]; exact Grow.refl.upd h8
    have x8 : σ₈ d8 = some (.list ([Str.ofString c].map .str)) := by
      rw [← hs8, upd_same]
      rcases hc with rfl | rfl | rfl <;> rfl
    refine join_list x8 (by
      rcases hc with rfl | rfl | rfl <;> decide +kernel) ?_
    have hj : Str.join (Str.ofString "") [Str.ofString c] = Str.ofString c := by rcases hc with rfl | rfl | rfl <;> decide +kernel
    rw [hj]
    simp
    exact q _ (((((((g.trans g1).trans g2).trans g3).trans g4).trans g5).trans g6).trans (g7.trans g8))
end Mine


end
noncomputable section
set_option autoImplicit false
set_option maxRecDepth 10000
set_option linter.unusedVariables false
set_option linter.unusedSimpArgs false
namespace Mine
open PySem PySem.W PyProof.Rows PySem.Calls
theorem tops_ok : ∀ j : Nat, j < 170 → okPart (Str.ofString "tops" ++ Str.ofString ((j : Int).repr)) = true := by decide +kernel
theorem x_ok : okPart (Str.ofString "x") = true := by decide +kernel
theorem slx : Str.ofString "/x" = Str.ofString "/" ++ Str.ofString "x" := by decide +kernel
theorem app_assoc (x y z : Str) : x ++ (y ++ z) = x ++ y ++ z := cl_inj (by simp [cl_append])
theorem tops_path (j : Nat) (hj : j < 170) : okPath (Str.ofString "tops" ++ Str.ofString ((j : Int).repr) ++ Str.ofString "/x") = true := by
  rw [slx, app_assoc]
  exact okPath_join (xs := [Str.ofString "tops" ++ Str.ofString ((j : Int).repr), Str.ofString "x"]) (by intro z hz; simp at hz; rcases hz with rfl | rfl; exact tops_ok j hj; exact x_ok) (by simp) (by simp)
structure TS (m : Loc) (σ σ₀ : View) (a : Addr) (kvs : List (Str × V)) (sh : Int) (n : Nat) : Prop where
  sc : m "_law_script" = some .script
  tr : m "_law_tree" = some (.ref a)
  sf : m "_law_shift" = some (.int sh)
  d : ∃ ep, σ a = some (.dict kvs ep)
  g : Grow σ₀ σ
  t : Tr n kvs
theorem tr2 {ns : List Int} {m : Loc} {σ σ₀ : View} {a : Addr} {sh : Int} {Q : Fl → Loc → View → Prop} (hn : σ₀ a = Option.none) (S : TS m σ σ₀ a [] sh 0) (h : ∀ m' σ' kvs, TS m' σ' σ₀ a kvs sh 8 → Q .next m' σ') : T__law_tree_by_2 ns m σ Q := by
  have m1 := Int.emod_nonneg (cell ns 1) (b := 8) (by decide)
  have m2 := Int.emod_lt_of_pos (cell ns 1) (b := 8) (by decide)
  simp [T__law_tree_by_2, S.sc]
  refine ⟨⟨by omega, by omega⟩, ?_⟩
  refine forL_inv (fun i m σ => ∃ kvs, TS m σ σ₀ a kvs sh i) (fun _ _ _ => False) (fun _ _ _ _ => trivial) _ ?_ ?_ (fun _ _ _ h => h.elim) _ _ ⟨[], S⟩
  · rintro i v m σ Q' hv ⟨kvs, S⟩ n1 n2 n3
    obtain ⟨hi, rfl⟩ := range_get hv
    refine ⟨_, rfl, ?_⟩
    rw [seq_eq]
    simp [S.sc]
    refine ⟨by omega, ?_⟩
    rw [seq_eq]
    simp [S.sf]
    intro x σ₁ g1 hx hxl
    rw [seq_eq]
    simp [S.tr]
    obtain ⟨ep, hd⟩ := S.d
    have len := S.t.len
    refine sp_free (g1 _ _ hd) S.t.key (by omega) ?_
    simp
    split
    · rw [seq_eq]
      simp [S.sf, S.tr]
      intro y σ₂ g2 hy
      refine set_dict (g2 _ _ (g1 _ _ hd)) (by omega) fun ep' => ?_
      exact n1 _ _ ⟨_, by simp [S.sc], by simp [S.tr], by simp [S.sf], ⟨ep', upd_same _ _ _⟩, ((S.g.trans g1).trans g2).over hn, S.t.put (by omega) hx⟩
    · exact n1 _ _ ⟨kvs, by simp [S.sc], by simp [S.tr], by simp [S.sf], ⟨ep, g1 _ _ hd⟩, S.g.trans g1, S.t.mono (Nat.le_succ _)⟩
  · rintro m σ ⟨kvs, S⟩
    rw [range_len] at S
    exact h m σ kvs { S with t := S.t.mono (by omega) }
theorem tr7 {ns : List Int} {m : Loc} {σ σ₀ : View} {a : Addr} {sh : Int} {kvs : List (Str × V)} {N : Nat} {Q : Fl → Loc → View → Prop} (hn : σ₀ a = Option.none) (S : TS m σ σ₀ a kvs sh 8) (hN : N ≤ 170) (hm : m "_law_many" = some (.int N)) (h : ∀ m' σ' kvs, TS m' σ' σ₀ a kvs sh 180 → Q .next m' σ') : T__law_tree_by_7 ns m σ Q := by
  simp [T__law_tree_by_7, hm]
  refine ⟨by omega, ?_⟩
  refine forL_inv (fun i m σ => ∃ kvs, TS m σ σ₀ a kvs sh (8 + i)) (fun _ _ _ => False) (fun _ _ _ _ => trivial) _ ?_ ?_ (fun _ _ _ h => h.elim) _ _ ⟨kvs, S⟩
  · rintro i v m σ Q' hv ⟨kvs, S⟩ n1 n2 n3
    obtain ⟨hi, rfl⟩ := range_get hv
    refine ⟨_, rfl, ?_⟩
    have hjl := tops_len i (by omega)
    have f1 := len_append (Str.ofString "tops") (Str.ofString ((i : Int).repr))
    have f2 := len_append (Str.ofString "tops" ++ Str.ofString ((i : Int).repr)) (Str.ofString "/x")
    have f3 := x_len
    have f4 : i.log2 ≤ i := Nat.log2_le_self i
    obtain ⟨ep, hd⟩ := S.d
    have len := S.t.len
    simp [seq_eq, S.tr]
    refine ⟨by omega, by omega, notin_dict hd ?_⟩
    simp
    split
    · simp [S.sf, S.tr]
      intro y σ₂ g hy
      refine ⟨by omega, by omega, by omega, ?_⟩
      refine set_dict (g _ _ hd) (by omega) fun ep2 => ?_
      exact n1 _ _ ⟨_, by simp [S.sc], by simp [S.tr], by simp [S.sf], ⟨ep2, upd_same _ _ _⟩, (S.g.trans g).over hn, S.t.put (by omega) (tops_path i (by omega))⟩
    · exact n1 _ _ ⟨kvs, by simp [S.sc], by simp [S.tr], by simp [S.sf], ⟨ep, hd⟩, S.g, S.t.mono (by omega)⟩
  · rintro m σ ⟨kvs, S⟩
    rw [range_len] at S
    exact h m σ kvs { S with t := S.t.mono (by omega) }
theorem s_treeby (ns : List Int) : ∀ vs σ Q, sp__law_tree_by ns vs σ Q → vs.length = 2 ∧ T__law_tree_by ns (bindM ["_law_script", "_law_shift"] vs none') σ (fin Q) := by
  rintro vs σ Q ⟨sh, rfl, q⟩
  refine ⟨rfl, ?_⟩
  unfold T__law_tree_by
  rw [seq_eq]
  simp [T__law_tree_by_1]
  intro a ea ha
  rw [seq_eq]
  have t0 : Tr 0 [] := ⟨Nat.le_refl _, by simp, by simp, by simp, List.nodup_nil⟩
  refine tr2 (sh := sh) ha ⟨by simp, by simp, by simp, ⟨ea, upd_same _ _ _⟩, Grow.refl.upd ha, t0⟩ fun m₁ σ₁ kvs S => ?_
  rw [kont_next, seq_eq]
  simp [T__law_tree_by_3, S.sc]
  generalize cell ns 1 / 8 % 16 = mo
  rw [seq_eq]
  simp [T__law_tree_by_4]
  rw [seq_eq]
  have last : ∀ (m : Loc) (N : Nat), N ≤ 170 → TS m σ₁ σ a kvs sh 8 → m "_law_many" = some (.int N) → sSeq (T__law_tree_by_7 ns) (sSeq (T__law_tree_by_8 ns) sNil) m σ₁ (fin Q) := by
    intro m N hN S hm
    rw [seq_eq]
    refine tr7 ha S hN hm fun m' σ' kvs' S' => ?_
    rw [kont_next, seq_eq]
    simp [T__law_tree_by_8, S'.tr]
    obtain ⟨ep, hd⟩ := S'.d
    exact q a kvs' ep σ' S'.g hd S'.t
  have mid : ∀ (m : Loc) (N : Nat), N ≤ 170 → TS m σ₁ σ a kvs sh 8 → m "_law_many" = some (.int N) → m "_law_more" = some (.int mo) → sSeq (T__law_tree_by_6 ns) (sSeq (T__law_tree_by_7 ns) (sSeq (T__law_tree_by_8 ns) sNil)) m σ₁ (fin Q) := by
    intro m N hN S hm hmo
    rw [seq_eq]
    simp [T__law_tree_by_6, hmo]
    split
    · rw [seq_eq]
      simp
      exact last _ 170 (Nat.le_refl _) { S with sc := by simp [S.sc], tr := by simp [S.tr], sf := by simp [S.sf] } (by simp)
    · exact last _ N hN S hm
  simp [T__law_tree_by_5]
  have S1 : ∀ n : Int, TS (put (put m₁ "_law_more" (.int mo)) "_law_many" (.int n)) σ₁ σ a kvs sh 8 := fun n => { S with sc := by simp [S.sc], tr := by simp [S.tr], sf := by simp [S.sf] }
  by_cases k1 : mo = 1 ∨ mo = 9
  · have : sSeq (sSet "_law_many" (eVal (V.int 60))) sNil (put (put m₁ "_law_more" (.int mo)) "_law_many" (.int 0)) σ₁ (kont (sSeq (T__law_tree_by_6 ns) (sSeq (T__law_tree_by_7 ns) (sSeq (T__law_tree_by_8 ns) sNil))) (fin Q)) := by
      rw [seq_eq]
      simp
      exact mid _ 60 (by decide) { S with sc := by simp [S.sc], tr := by simp [S.tr], sf := by simp [S.sf] } (by simp) (by simp)
    rcases k1 with rfl | rfl
    · simpa using this
    · simpa using this
  · have h1 : ¬ mo = 1 := fun e => k1 (.inl e)
    have h9 : ¬ mo = 9 := fun e => k1 (.inr e)
    simp [h1, h9]
    exact mid _ 0 (by decide) (S1 0) (by simp) (by simp)
end Mine


end
noncomputable section
set_option autoImplicit false
set_option maxRecDepth 10000
set_option linter.unusedVariables false
set_option linter.unusedSimpArgs false
namespace Mine
open PySem PySem.W PyProof.Rows PySem.Calls
theorem jn_app (c : Nat) : ∀ (xs ys : List (List Nat)), xs ≠ [] → ys ≠ [] → jn c (xs ++ ys) = jn c xs ++ c :: jn c ys
  | [], _, h, _ => absurd rfl h
  | [x], y :: r, _, _ => rfl
  | [x], [], _, h => absurd rfl h
  | x :: x' :: r, ys, _, hy => by
    have ih := jn_app c (x' :: r) ys (by simp) hy
    simp only [List.cons_append] at ih ⊢
    simp only [jn, ih, List.append_assoc, List.cons_append]
theorem join_app {xs ys : List Str} (hx : xs ≠ []) (hy : ys ≠ []) : Str.join (Str.ofString "/") (xs ++ ys) = Str.join (Str.ofString "/") xs ++ Str.ofString "/" ++ Str.join (Str.ofString "/") ys := by
  apply cl_inj
  rw [cl_append, cl_append, sl_eq, cl_join, cl_join, cl_join, List.map_append, jn_app _ _ _ (by simpa using hx) (by simpa using hy)]
  show _ = _ ++ [47] ++ _
  simp
theorem split_ne (x : Str) : Txt.split x (Str.ofString "/") ≠ [] := by
  have := PyProof.Rows.split_pos x (Str.ofString "/")
  intro e; rw [e] at this; simp at this
theorem split_fr (x : Str) : ∀ y ∈ Txt.split x (Str.ofString "/"), Fr y := by
  intro y hy
  rw [sl_eq] at hy
  exact StrLaws.split_free _ 47 y hy
theorem fr_app {xs ys : List Str} (hx : ∀ y ∈ xs, Fr y) (hy : ∀ y ∈ ys, Fr y) : ∀ y ∈ xs ++ ys, Fr y := fun y h => (List.mem_append.mp h).elim (hx y) (hy y)
/-- the parts of a path with parts ahead or behind -/
theorem okPath_parts {xs : List Str} (hf : ∀ y ∈ xs, Fr y) (hn : xs ≠ []) : okPath (Str.join (Str.ofString "/") xs) = (decide (xs.length ≤ 8) && xs.all okPart) := by
  unfold okPath
  rw [split_join hf hn]
theorem bad_behind (x : Str) {ys : List Str} (hf : ∀ y ∈ ys, Fr y) (hn : ys ≠ []) (hb : ys.all okPart = false) : okPath (x ++ Str.ofString "/" ++ Str.join (Str.ofString "/") ys) = false := by
  have e : x ++ Str.ofString "/" ++ Str.join (Str.ofString "/") ys = Str.join (Str.ofString "/") (Txt.split x (Str.ofString "/") ++ ys) := by
    rw [join_app (split_ne x) hn, StrLaws.join_split]
  rw [e, okPath_parts (fr_app (split_fr x) hf) (by simp [hn]), List.all_append, hb]; simp
theorem bad_ahead (x : Str) {ys : List Str} (hf : ∀ y ∈ ys, Fr y) (hn : ys ≠ []) (hb : ys.all okPart = false ∨ 8 ≤ ys.length) : okPath (Str.join (Str.ofString "/") ys ++ Str.ofString "/" ++ x) = false := by
  have e : Str.join (Str.ofString "/") ys ++ Str.ofString "/" ++ x = Str.join (Str.ofString "/") (ys ++ Txt.split x (Str.ofString "/")) := by
    rw [join_app hn (split_ne x), StrLaws.join_split]
  rw [e, okPath_parts (fr_app hf (split_fr x)) (by simp [hn]), List.all_append]
  rcases hb with hb | hb
  · rw [hb]; simp
  · have h0 : 0 < (Txt.split x (Str.ofString "/")).length := List.length_pos_iff.mpr (split_ne x)
    rw [decide_eq_false (by rw [List.length_append]; omega)]; rfl
theorem plus_bad (x : Str) : okPath (x ++ Str.ofString "+") = false := by
  obtain ⟨pre, l, e⟩ : ∃ pre l, Txt.split x (Str.ofString "/") = pre ++ [l] := by
    have := List.dropLast_concat_getLast (split_ne x)
    exact ⟨_, _, this.symm⟩
  have hfr := split_fr x
  rw [e] at hfr
  have hpl : Fr (l ++ Str.ofString "+") := by
    have := hfr l (by simp)
    unfold Fr at this ⊢
    rw [cl_append]
    intro h
    rcases List.mem_append.mp h with h | h
    · exact this h
    · revert h; decide
  have hbad : okPart (l ++ Str.ofString "+") = false := by
    unfold okPart
    rw [Bool.and_eq_false_iff]
    right
    rw [List.all_eq_false]
    refine ⟨43, ?_, by decide +kernel⟩
    rw [cl_append]
    exact List.mem_append.mpr (.inr (by decide))
  have hx : x ++ Str.ofString "+" = Str.join (Str.ofString "/") (pre ++ [l ++ Str.ofString "+"]) := by
    have hj := StrLaws.join_split x (Str.ofString "/")
    rw [e] at hj
    by_cases hp : pre = []
    · subst hp
      show _ = l ++ Str.ofString "+"
      rw [← hj]; rfl
    · rw [join_app hp (by simp)] at hj ⊢
      rw [← hj]
      exact (app_assoc _ _ _).symm
  rw [hx, okPath_parts ?_ (by simp), List.all_append]
  · simp [hbad]
  · intro y hy
    rcases List.mem_append.mp hy with h | h
    · exact hfr y (List.mem_append.mpr (.inl h))
    · simp at h; rw [h]; exact hpl
theorem e_bad : okPath (Str.ofString "") = false := by decide +kernel
theorem sl_bad (x : Str) : okPath (Str.ofString "/" ++ x) = false := by
  have := bad_ahead x (ys := [Str.ofString ""]) (by intro y hy; simp at hy; subst hy; unfold Fr; decide) (by simp) (.inl (by decide +kernel))
  have e : Str.join (Str.ofString "/") [Str.ofString ""] ++ Str.ofString "/" = Str.ofString "/" := by decide +kernel
  rw [e] at this; exact this
theorem asl_bad (x : Str) : okPath (x ++ Str.ofString "/") = false := by
  have := bad_behind x (ys := [Str.ofString ""]) (by intro y hy; simp at hy; subst hy; unfold Fr; decide) (by simp) (by decide +kernel)
  have e : x ++ Str.ofString "/" ++ Str.join (Str.ofString "/") [Str.ofString ""] = x ++ Str.ofString "/" := cl_inj (by rw [cl_append _ (Str.join _ _)]; show _ ++ [] = _; simp)
  rw [e] at this; exact this
theorem asla_bad (x : Str) : okPath (x ++ Str.ofString "//a") = false := by
  have := bad_behind x (ys := [Str.ofString "", Str.ofString "a"]) (by intro y hy; simp at hy; rcases hy with rfl | rfl <;> (unfold Fr; decide)) (by simp) (by decide +kernel)
  have e : x ++ Str.ofString "/" ++ Str.join (Str.ofString "/") [Str.ofString "", Str.ofString "a"] = x ++ Str.ofString "//a" := by
    rw [← app_assoc, show Str.ofString "/" ++ Str.join (Str.ofString "/") [Str.ofString "", Str.ofString "a"] = Str.ofString "//a" from by decide +kernel]
  rw [e] at this; exact this
theorem asld_bad (x : Str) : okPath (x ++ Str.ofString "/..") = false := by
  have := bad_behind x (ys := [Str.ofString ".."]) (by intro y hy; simp at hy; subst hy; unfold Fr; decide) (by simp) (by decide +kernel)
  have e : x ++ Str.ofString "/" ++ Str.join (Str.ofString "/") [Str.ofString ".."] = x ++ Str.ofString "/.." := by
    rw [← app_assoc, show Str.ofString "/" ++ Str.join (Str.ofString "/") [Str.ofString ".."] = Str.ofString "/.." from by decide +kernel]
  rw [e] at this; exact this
def eight : List Str := ["a", "b", "c", "d", "e", "f", "g", "h"].map Str.ofString
theorem eight_bad (x : Str) : okPath (Str.ofString "a/b/c/d/e/f/g/h/" ++ x) = false := by
  have := bad_ahead x (ys := eight) (by intro y hy; revert y; unfold Fr; decide +kernel) (by decide) (.inr (by decide))
  have e : Str.join (Str.ofString "/") eight ++ Str.ofString "/" = Str.ofString "a/b/c/d/e/f/g/h/" := by decide +kernel
  rw [e] at this; exact this
theorem partsFrom_len (x : Str) (w : Nat) : ∀ (cuts : List Nat) (a : Nat), (StrLaws.partsFrom x w a cuts).length = cuts.length + 1
  | [], _ => rfl
  | c :: r, a => by
    show (StrLaws.partsFrom x w (c + w) r).length + 1 = _
    rw [partsFrom_len x w r]; rfl
theorem count_split {x : Str} (h : 1 ≤ x.length) : Txt.count x (Str.ofString "/") + 1 = ((Txt.split x (Str.ofString "/")).length : Int) := by
  unfold Txt.count Txt.split
  have hk : Builtin.Str.strKind (Str.ofString "/") = 1 := by decide +kernel
  have hk2 : 1 ≤ Builtin.Str.strKind x := by
    unfold Builtin.Str.strKind
    split
    · decide
    · split <;> decide
  rw [if_neg (by rw [hk, sl_len]; simp; omega)]
  split
  · rename_i he
    rw [List.isEmpty_iff] at he
    rw [he]; rfl
  · rw [StrLaws.partsBetween_eq, partsFrom_len]; rfl
theorem s_asked (ns : List Int) : ∀ vs σ Q, sp__law_path_asked ns vs σ Q → vs.length = 3 ∧ T__law_path_asked ns (bindM ["_law_script", "_law_shift", "_law_tree"] vs none') σ (fin Q) := by
  rintro vs σ Q ⟨sh, a, kvs, ep, rfl, ha, ht, q⟩
  refine ⟨rfl, ?_⟩
  unfold T__law_path_asked
  rw [seq_eq]
  simp [T__law_path_asked_1]
  generalize cell ns 2 = od at q ⊢
  rw [seq_eq]
  simp [T__law_path_asked_2]
  intro x σ₁ g1 hx hxl
  have ha1 := g1 _ _ ha
  rw [seq_eq]
  simp [T__law_path_asked_3]
  by_cases k1 : od % 6 = 1
  · simp [k1] at q ⊢
    rw [seq_eq]
    have l1 := len_append (Str.ofString "/") x
    have l2 := len_append x (Str.ofString "/")
    have l3 := len_append x (Str.ofString "//a")
    have l4 := len_append x (Str.ofString "/..")
    have l5 := len_append x (Str.ofString "+")
    have l6 := len_append (Str.ofString "a/b/c/d/e/f/g/h/") x
    have z1 : (Str.ofString "/").length = 1 := by decide +kernel
    have z3 : (Str.ofString "//a").length = 3 := by decide +kernel
    have z4 : (Str.ofString "/..").length = 3 := by decide +kernel
    have z5 : (Str.ofString "+").length = 1 := by decide +kernel
    have z6 : (Str.ofString "a/b/c/d/e/f/g/h/").length = 16 := by decide +kernel
    simp
    refine ⟨by omega, by omega, by omega, by omega, by omega, ?_⟩
    intro d1 h1
    generalize hs1 : upd σ₁ d1 _ = σ₂
    have g2 : Grow σ₁ σ₂ := by rw [← hs1]; exact Grow.refl.upd h1
    have x1 : σ₂ d1 = some (.list ([Str.ofString "", Str.ofString "/" ++ x, x ++ Str.ofString "/", x ++ Str.ofString "//a", x ++ Str.ofString "/..", x ++ Str.ofString "+"].map .str)) := by rw [← hs1, upd_same]; rfl
    rw [seq_eq]
    simp
    refine ⟨by omega, ?_⟩
    intro d2 h2
    generalize hs2 : upd σ₂ d2 _ = σ₃
    have g3 : Grow σ₂ σ₃ := by rw [← hs2]; exact Grow.refl.upd h2
    have x2 : σ₃ d2 = some (.list [.str (Str.ofString "a/b/c/d/e/f/g/h/" ++ x)]) := by rw [← hs2, upd_same]
    refine add_list (g3 _ _ x1) x2 (by simp) fun d3 h3 => ?_
    generalize hs3 : upd σ₃ d3 _ = σ₄
    have g4 : Grow σ₃ σ₄ := by rw [← hs3]; exact Grow.refl.upd h3
    have x3 : σ₄ d3 = some (.list ([Str.ofString "", Str.ofString "/" ++ x, x ++ Str.ofString "/", x ++ Str.ofString "//a", x ++ Str.ofString "/..", x ++ Str.ofString "+", Str.ofString "a/b/c/d/e/f/g/h/" ++ x].map .str)) := by rw [← hs3, upd_same]; rfl
    have m1 := Int.emod_nonneg (od / 6) (b := 7) (by decide)
    have m2 := Int.emod_lt_of_pos (od / 6) (b := 7) (by decide)
    have gg := ((g1.trans g2).trans g3).trans g4
    have fin : ∀ y : Str, ([Str.ofString "", Str.ofString "/" ++ x, x ++ Str.ofString "/", x ++ Str.ofString "//a", x ++ Str.ofString "/..", x ++ Str.ofString "+", Str.ofString "a/b/c/d/e/f/g/h/" ++ x].map V.str)[(od / 6 % 7).toNat]? = some (.str y) → y.length ≤ 900 → okPath y = false → opItem ns (.ref d3) (.int (od / 6 % 7)) σ₄ Q := fun y hy hl hb =>
      item_list (v := .str y) x3 m1 hy (q y σ₄ gg hl hb)
    have hr : od / 6 % 7 = 0 ∨ od / 6 % 7 = 1 ∨ od / 6 % 7 = 2 ∨ od / 6 % 7 = 3 ∨ od / 6 % 7 = 4 ∨ od / 6 % 7 = 5 ∨ od / 6 % 7 = 6 := by omega
    rcases hr with hr | hr | hr | hr | hr | hr | hr
    · exact fin _ (by rw [hr]; rfl) (by decide +kernel) e_bad
    · exact fin _ (by rw [hr]; rfl) (by omega) (sl_bad x)
    · exact fin _ (by rw [hr]; rfl) (by omega) (asl_bad x)
    · exact fin _ (by rw [hr]; rfl) (by omega) (asla_bad x)
    · exact fin _ (by rw [hr]; rfl) (by omega) (asld_bad x)
    · exact fin _ (by rw [hr]; rfl) (by omega) (plus_bad x)
    · exact fin _ (by rw [hr]; rfl) (by omega) (eight_bad x)
  · simp [k1] at q ⊢
    rw [seq_eq]
    have last : ∀ (m : Loc) (σ' : View) (y : Str), Grow σ σ' → m "_law_path" = some (.str y) → okPath y = true → y.length ≤ 900 → sSeq (T__law_path_asked_5 ns) sNil m σ' (fin Q) := by
      intro m σ' y g hm ho hl
      rw [seq_eq]
      simp [T__law_path_asked_5, hm]
      exact q y σ' g hl ho
    simp [T__law_path_asked_4]
    split
    · simp [len_dict ha1]
      split
      · rename_i hpos
        rw [seq_eq]
        simp
        rw [listc_dict ha1]
        intro d1 h1
        generalize hs1 : upd σ₁ d1 _ = σ₂
        have g2 : Grow σ₁ σ₂ := by rw [← hs1]; exact Grow.refl.upd h1
        have x1 : σ₂ d1 = some (.list (kvs.map fun q => .str q.1)) := by rw [← hs1, upd_same]
        simp [len_dict (g2 _ _ ha1)]
        have hp' : 0 < kvs.length := by omega
        refine ⟨hp', ?_⟩
        have m1 := Int.emod_nonneg (od / 6) (b := (kvs.length : Int)) (by omega)
        have m2 := Int.emod_lt_of_pos (od / 6) (b := (kvs.length : Int)) (by omega)
        obtain ⟨p, hp⟩ : ∃ p, kvs[(od / 6 % kvs.length).toNat]? = some p := ⟨_, List.getElem?_eq_getElem (by omega)⟩
        have hpm := List.mem_of_getElem? hp
        have hpo := ht.ok p hpm
        have hpk := ht.key p hpm
        refine item_list (v := .str p.1) x1 m1 (by rw [List.getElem?_map, hp]; rfl) ?_
        have gg := g1.trans g2
        rw [seq_eq]
        simp
        have h8 : (Txt.split p.1 (Str.ofString "/")).length ≤ 8 ∧ ∀ y ∈ Txt.split p.1 (Str.ofString "/"), okPart y = true := by
          unfold okPath at hpo
          simp at hpo
          exact hpo
        have hp1 : 1 ≤ p.1.length := by
          rcases Nat.eq_zero_or_pos p.1.length with z | z
          · have : p.1 = Str.ofString "" := cl_inj (by
              have h := cl_len p.1
              rw [z] at h
              exact (List.length_eq_zero_iff.mp h.symm).trans (by decide))
            rw [this, e_bad] at hpo; cases hpo
          · exact z
        have hcs := count_split hp1
        generalize hct : Txt.count p.1 (Str.ofString "/") + 1 = many at hcs ⊢
        have h0 : 0 < (Txt.split p.1 (Str.ofString "/")).length := List.length_pos_iff.mpr (split_ne p.1)
        have hjp := StrLaws.join_split p.1 (Str.ofString "/")
        have hfr := split_fr p.1
        generalize hP : Txt.split p.1 (Str.ofString "/") = P at h8 hcs h0 hjp hfr
        obtain ⟨h8, hok⟩ := h8
        have lp := len_append p.1 (Str.ofString "/")
        rw [sl_len] at lp
        have zl := sl_len
        rw [seq_eq]
        simp
        by_cases k2 : od % 6 = 2
        · have k3 : ¬ od % 6 = 3 := by omega
          simp [k2]
          split
          · rename_i h7
            rw [seq_eq]
            simp
            refine ⟨by omega, ?_⟩
            intro nm σ₃ g3 hnm
            have hnl := part_le hnm
            have l2 := len_append (p.1 ++ Str.ofString "/") nm
            refine ⟨by omega, ?_⟩
            intro d2 h2
            generalize hs2 : upd σ₃ d2 _ = σ₄
            have g4 : Grow σ₃ σ₄ := by rw [← hs2]; exact Grow.refl.upd h2
            have x2 : σ₄ d2 = some (.list [.str (Str.ofString ""), .str (Str.ofString "/b")]) := by rw [← hs2, upd_same]
            have n1 := Int.emod_nonneg (od / 84) (b := 2) (by decide)
            have n2 := Int.emod_lt_of_pos (od / 84) (b := 2) (by decide)
            have hr : od / 84 % 2 = 0 ∨ od / 84 % 2 = 1 := by omega
            have lb : (Str.ofString "/b").length = 2 := by decide +kernel
            have jn1 : p.1 ++ Str.ofString "/" ++ nm = Str.join (Str.ofString "/") (P ++ [nm]) := by
              rw [join_app (List.length_pos_iff.mp h0) (by simp), hjp]; rfl
            have goE : ∀ t y : Str, ([V.str (Str.ofString ""), .str (Str.ofString "/b")])[(od / 84 % 2).toNat]? = some (.str t) → t.length ≤ 2 → p.1 ++ Str.ofString "/" ++ nm ++ t = y → okPath y = true → opItem ns (.ref d2) (.int (od / 84 % 2)) σ₄ fun b σ₂ => opAdd (.str (p.1 ++ Str.ofString "/" ++ nm)) b σ₂ fun v σ' =>
                sSeq (sIf (tBool (eBin opEq0 (eBin opMod (eName "_law_odd") (eVal (.int 6))) (eVal (.int 3)))) (sSeq (sSet "_law_path" (eMeth tyStr spJoin (eVal (.str (Str.ofString "/"))) (lCons (eCut ns (eMeth tyStr spSplit (eName "_law_path") (lCons (eVal (.str (Str.ofString "/"))) lNil)) pNone (pSome (eBin opAdd (eVal (.int 1)) (eBin opMod (eBin opDiv (eName "_law_odd") (eVal (.int 42))) (eName "_law_many"))))) lNil))) sNil) sNil) sNil
                  (put (put (put (put (put (put (put (put none' "_law_script" V.script) "_law_shift" (V.int sh)) "_law_tree" (V.ref a)) "_law_odd" (V.int od)) "_law_path" (V.str x)) "_law_path" (V.str p.1)) "_law_many" (V.int many)) "_law_path" v) σ' (kont (sSeq (T__law_path_asked_5 ns) sNil) (fin Q)) := by
              intro t y h1 h2 h3 h4
              have l3 := len_append (p.1 ++ Str.ofString "/" ++ nm) t
              refine item_list (v := .str t) x2 n1 h1 ?_
              simp only [add_str]
              refine ⟨by omega, ?_⟩
              rw [h3]
              rw [seq_eq]
              simp [k3]
              exact last _ _ y ((gg.trans g3).trans g4) (by simp) h4 (by rw [← h3]; omega)
            rcases hr with hr | hr
            · refine goE (Str.ofString "") _ (by rw [hr]; rfl) (by decide +kernel) rfl ?_
              have e : p.1 ++ Str.ofString "/" ++ nm ++ Str.ofString "" = p.1 ++ Str.ofString "/" ++ nm := cl_inj (by rw [cl_append _ (Str.ofString "")]; show _ ++ [] = _; simp)
              rw [e, jn1]
              exact okPath_join (by intro z hz; rcases List.mem_append.mp hz with hz | hz; exact hok z hz; simp at hz; rw [hz]; exact hnm) (by simp) (by simp; omega)
            · refine goE (Str.ofString "/b") _ (by rw [hr]; rfl) (by omega) rfl ?_
              have e : p.1 ++ Str.ofString "/" ++ nm ++ Str.ofString "/b" = Str.join (Str.ofString "/") (P ++ [nm, Str.ofString "b"]) := by
                rw [join_app (List.length_pos_iff.mp h0) (by simp), hjp]
                show _ = p.1 ++ Str.ofString "/" ++ (nm ++ Str.ofString "/" ++ Str.ofString "b")
                rw [show Str.ofString "/b" = Str.ofString "/" ++ Str.ofString "b" from by decide +kernel]
                exact cl_inj (by simp [cl_append])
              rw [e]
              exact okPath_join (by intro z hz; rcases List.mem_append.mp hz with hz | hz; exact hok z hz; simp at hz; rcases hz with rfl | rfl; exact hnm; decide +kernel) (by simp) (by simp; omega)
          · rw [seq_eq]
            simp [k3]
            exact last _ _ p.1 gg (by simp) hpo (by omega)
        · simp [k2]
          rw [seq_eq]
          simp
          by_cases k3 : od % 6 = 3
          · simp [k3]
            rw [seq_eq]
            simp
            refine ⟨⟨sl_len, by omega⟩, fun d2 h2 => ?_⟩
            rw [hP]
            have g3 : Grow σ₂ (upd σ₂ d2 (.list (P.map .str))) := Grow.refl.upd h2
            have x2 := upd_same σ₂ d2 (.list (P.map .str))
            generalize (upd σ₂ d2 (.list (P.map .str))) = σ₃ at g3 x2 ⊢
            have mn := Int.emod_nonneg (od / 42) (b := many) (by omega)
            have mx := Int.emod_lt_of_pos (od / 42) (b := many) (by omega)
            refine ⟨by omega, cut_list x2 fun d3 h3 => ?_⟩
            rw [cut_take _ (by omega), ← List.map_take]
            have hall : ∀ y ∈ P.take (1 + od / 42 % many).toNat, okPart y = true := fun y hy => hok y (List.mem_of_mem_take hy)
            have hlen : (P.take (1 + od / 42 % many).toNat).length ≤ 8 := by rw [List.length_take]; omega
            have hne : P.take (1 + od / 42 % many).toNat ≠ [] := by intro e; have := congrArg List.length e; rw [List.length_take, List.length_nil] at this; omega
            have hs := sum_le (P.take (1 + od / 42 % many).toNat) fun y hy => part_le (hall y hy)
            have hj := join_len_le (P.take (1 + od / 42 % many).toNat)
            unfold joinLen at hj
            generalize P.take (1 + od / 42 % many).toNat = R at hall hlen hne hs hj ⊢
            refine join_list (upd_same _ _ _) (by rw [sl_len]; omega) ?_
            exact last _ _ _ ((gg.trans g3).upd h3) (by simp) (okPath_join hall hne hlen) (by omega)
          · simp [k3]
            exact last _ _ p.1 gg (by simp) hpo (by omega)
      · exact last _ _ x g1 (by simp) hx (by omega)
    · exact last _ _ x g1 (by simp) hx (by omega)
end Mine


end
noncomputable section
set_option autoImplicit false
set_option maxRecDepth 10000
set_option linter.unusedVariables false
set_option linter.unusedSimpArgs false
namespace Mine
open PySem PySem.W PyProof.Rows PySem.Calls
theorem vout_map (k : Str) (v : V) : ∀ kvs : List (Str × V), (kvs.map fun kv => if kv.1 = k then (kv.1, v) else kv).filter (fun kv => decide (kv.1 ≠ k)) = kvs.filter fun kv => decide (kv.1 ≠ k)
  | [] => rfl
  | q :: r => by
    have ih := vout_map k v r
    by_cases h : q.1 = k
    · simp only [List.map_cons, h, if_true, List.filter_cons, ne_eq, not_true, decide_false]
      simpa [h] using ih
    · simp only [List.map_cons, if_neg h, List.filter_cons]
      simp [h]
      simpa using ih
theorem vout_stored (kvs : List (Str × V)) (k : Str) (v : V) : vout (vstored kvs k v) k = vout kvs k := by
  unfold vout vstored
  split
  · exact vout_map k v kvs
  · rw [List.filter_append]; simp
def wordX (kvs : List (Str × V)) (cu : Bool) (x l : Str) : Str := match outc kvs cu x l with
  | .inl c => Str.ofString c
  | .inr _ => Str.ofString "made"
def dueX (kvs : List (Str × V)) (cu : Bool) (x l : Str) : List (Str × V) := if cu then vout kvs x else vstored kvs x (.str l)
theorem outc_due {kvs : List (Str × V)} {cu : Bool} {x l : Str} {k2 : List (Str × V)} (h : outc kvs cu x l = .inr k2) : k2 = dueX kvs cu x l := by
  unfold outc at h
  unfold dueX
  split at h
  · cases h
  · cases cu with
    | true => simp at h ⊢; split at h; cases h; rfl; cases h
    | false => simp at h ⊢; split at h; cases h; rfl; cases h
theorem made_ne {c : String} (h : c = "NoPath" ∨ c = "NoFile" ∨ c = "InTheWay") : Str.ofString c ≠ Str.ofString "made" := by rcases h with rfl | rfl | rfl <;> decide
theorem s_law (ns : List Int) : ∀ vs σ Q X, sp_law ns vs σ Q X → vs.length = 1 ∧ T_law ns (bindM ["_law_script"] vs none') σ (fin Q) (fun c _ σ' => X c σ') := by
  rintro vs σ Q X ⟨rfl, hz, q⟩
  refine ⟨rfl, ?_⟩
  unfold T_law
  rw [xseq_eq]
  simp [T_law_1]
  rw [xseq_eq]
  simp [T_law_2]
  refine ⟨_, rfl, fun a kvs ep σ₁ g1 xa ht => ?_⟩
  have len := ht.len
  show xSeq _ _ _ _ _ _
  rw [xseq_eq]
  simp [T_law_3]
  rw [xseq_eq]
  simp [T_law_4]
  refine ⟨_, a, kvs, ep, rfl, xa, ht.mono (by decide), fun x σ₂ g2 hxl hxo => ?_⟩
  have xa2 := g2 _ _ xa
  show xSeq _ _ _ _ _ _
  rw [xseq_eq]
  simp [T_law_5]
  intro l σ₃ g3 hl
  have xa3 := g3 _ _ xa2
  rw [xseq_eq]
  simp [T_law_6]
  rw [xseq_eq]
  simp [T_law_7]
  rw [xseq_eq]
  simp [T_law_8]
  refine dictc_dict xa3 fun d ed hd => ?_
  have g4 : Grow σ₃ (upd σ₃ d (.dict kvs ed)) := Grow.refl.upd hd
  have xd := upd_same σ₃ d (.dict kvs ed)
  have xa4 := g4 _ _ xa3
  have had : a ≠ d := by rintro rfl; rw [xa3] at hd; cases hd
  generalize (upd σ₃ d (.dict kvs ed)) = σ₄ at g4 xd xa4 ⊢
  show xSeq _ _ _ _ _ _
  rw [xseq_eq]
  simp [T_law_9]
  refine set_dict xd (by omega) fun ed2 => ?_
  have xd5 := upd_same σ₄ d (.dict (vstored kvs x (.str l)) ed2)
  have xa5 : upd σ₄ d (.dict (vstored kvs x (.str l)) ed2) a = some (.dict kvs ep) := by rw [upd_ne had]; exact xa4
  generalize (upd σ₄ d (.dict (vstored kvs x (.str l)) ed2)) = σ₅ at xd5 xa5 ⊢
  show xSeq _ _ _ _ _ _
  rw [xseq_eq]
  generalize cell ns 2 = od at hxo ⊢
  -- behind the deed
  have tail : ∀ (m : Loc) (σ' : View) (cu : Bool) (ed' : Nat), m "_law_tree" = some (.ref a) → m "_law_due" = some (.ref d) → m "_law_deed" = some (deedOf cu x l) → m "_law_odd" = some (.int od) → σ' a = some (.dict kvs ep) → σ' d = some (.dict (dueX kvs cu x l) ed') →
      m "_law_word" = some (.str (if cu then (if x ∈ keysOf kvs then Str.ofString "made" else Str.ofString "NoFile") else (if isFree (keysOf kvs) x then Str.ofString "made" else Str.ofString "InTheWay"))) →
      xSeq (T_law_11 ns) (xSeq (T_law_12 ns) (xSeq (T_law_13 ns) (xP (sSeq (T_law_14 ns) (sSeq (T_law_15 ns) (sSeq (T_law_16 ns) (sSeq (T_law_17 ns) (sSeq (T_law_18 ns) sNil)))))))) m σ' (fin Q) (fun c _ σ' => X c σ') := by
    intro m σ' cu ed' mt md me mo xa xd mw
    have end' : ∀ m : Loc, m "_law_tree" = some (.ref a) → m "_law_due" = some (.ref d) → m "_law_deed" = some (deedOf cu x l) → m "_law_word" = some (.str (wordX kvs cu x l)) → xSeq (T_law_12 ns) (xSeq (T_law_13 ns) (xP (sSeq (T_law_14 ns) (sSeq (T_law_15 ns) (sSeq (T_law_16 ns) (sSeq (T_law_17 ns) (sSeq (T_law_18 ns) sNil))))))) m σ' (fin Q) (fun c _ σ' => X c σ') := by
      intro m mt md me mw
      rw [xseq_eq]
      simp [T_law_12, mt]
      refine dictc_dict xa fun k ek hk => ?_
      have gk : Grow σ' (upd σ' k (.dict kvs ek)) := Grow.refl.upd hk
      have xk := upd_same σ' k (.dict kvs ek)
      generalize (upd σ' k (.dict kvs ek)) = σ₆ at gk xk ⊢
      show xSeq _ _ _ _ _ _
      rw [xseq_eq]
      simp [T_law_13, mt, me]
      refine ⟨a, kvs, ep, cu, x, l, rfl, gk _ _ xa, ht.mono (by decide), by omega, ?_⟩
      have fl : ∀ q ∈ kvs, Flat0 q.2 := fun q hq => by obtain ⟨y, hy⟩ := ht.val q hq; rw [hy]; trivial
      unfold wordX at mw
      cases ho : outc kvs cu x l with
      | inl c =>
        rw [ho] at mw
        intro σ₇ g7
        have hne := made_ne (outc_cs ho)
        show sSeq _ _ _ _ _
        rw [seq_eq]
        simp [T_law_14, mt]
        refine neD_false (dq_dict (g7 _ _ (gk _ _ xa)) (g7 _ _ xk) ht.nodup fl) ?_
        simp
        refine ⟨by show 2 < 16777217; decide, 0, _, rfl, rfl, ?_⟩
        simp [mw]
        rw [seq_eq]
        simp [T_law_15, mw, hne]
        rw [seq_eq]
        simp
        refine ⟨by show 2 < 16777217; decide, 1, _, rfl, rfl, ?_⟩
        simp
        exact q _
      | inr k2 =>
        rw [ho] at mw
        have hk2 := outc_due ho
        intro b eb σ₇ g7 hb xb
        show sSeq _ _ _ _ _
        rw [seq_eq]
        simp [T_law_14, mt]
        refine neD_false (dq_dict (g7 _ _ (gk _ _ xa)) (g7 _ _ xk) ht.nodup fl) ?_
        simp
        refine ⟨by show 2 < 16777217; decide, 0, _, rfl, rfl, ?_⟩
        simp [mw]
        rw [seq_eq]
        simp [T_law_15, mw]
        rw [seq_eq]
        simp [T_law_16]
        refine ⟨by show 2 < 16777217; decide, 1, _, rfl, rfl, ?_⟩
        have xd7 := g7 _ _ (gk _ _ xd)
        have kn : (k2.map (·.1)).Nodup := by
          rw [hk2]; unfold dueX
          split
          · exact vout_nodup ht.nodup
          · exact vstored_nodup ht.nodup
        have kf : ∀ q ∈ k2, Flat0 q.2 := by
          rw [hk2]; unfold dueX
          split
          · exact fun q hq => fl q (vout_mem hq)
          · exact fun q hq => (vstored_mem hq).elim (fun e => by rw [e]; trivial) (fl q)
        have kl : k2.length ≤ 400 := by
          rw [hk2]; unfold dueX
          split
          · have := vout_len kvs x; omega
          · have := vstored_len kvs x (.str l); omega
        rw [← hk2] at xd7
        simp only [isi_dict xb]
        simp
        refine ⟨by show 2 < 16777217; decide, 1, _, rfl, rfl, ?_⟩
        simp [md]
        refine neD_false (dq_dict xb xd7 kn kf) ?_
        simp
        rw [seq_eq]
        simp [T_law_17]
        refine ⟨by show 2 < 16777217; decide, 1, _, rfl, rfl, ?_⟩
        refine set_dict xb (by omega) fun eb2 => ?_
        have hba : a ≠ b := by rintro rfl; rw [gk _ _ xa] at hb; cases hb
        have hbk : k ≠ b := by rintro rfl; rw [xk] at hb; cases hb
        show sSeq _ _ _ _ _
        rw [seq_eq]
        simp [T_law_18, mt]
        refine eqD_true (dq_dict (by rw [upd_ne hba]; exact g7 _ _ (gk _ _ xa)) (by rw [upd_ne hbk]; exact g7 _ _ xk) ht.nodup fl) ?_
        exact q _
    rw [xseq_eq]
    simp [T_law_11, mo]
    by_cases k1 : od % 6 = 1
    · simp [k1] at hxo ⊢
      rw [seq_eq]
      simp
      refine end' _ (by simp [mt]) (by simp [md]) (by simp [me]) ?_
      have : wordX kvs cu x l = Str.ofString "NoPath" := by unfold wordX outc; rw [if_pos hxo]
      rw [this]; simp
    · simp [k1] at hxo ⊢
      refine end' m mt md me ?_
      rw [mw]
      cases cu with
      | true =>
        unfold wordX outc
        simp [hxo]
        split <;> rfl
      | false =>
        unfold wordX outc
        simp [hxo]
        split <;> rfl
  simp [T_law_10]
  split
  · rw [seq_eq]
    simp
    rw [seq_eq]
    simp [tyDict_ref xd5]
    obtain ⟨v, hv, _⟩ := vget_mem (kvs := vstored kvs x (.str l)) (x := x) ((vstored_keys kvs x (.str l) x).mpr (.inl rfl))
    refine pop_dict xd5 hv fun ed3 => ?_
    rw [vout_stored]
    have xd6 := upd_same σ₅ d (.dict (vout kvs x) ed3)
    have xa6 : upd σ₅ d (.dict (vout kvs x) ed3) a = some (.dict kvs ep) := by rw [upd_ne had]; exact xa5
    generalize (upd σ₅ d (.dict (vout kvs x) ed3)) = σ₆ at xd6 xa6 ⊢
    show sSeq _ _ _ _ _
    rw [seq_eq]
    simp
    refine notin_dict xa6 ?_
    rw [vget_isSome]
    by_cases hin : x ∈ keysOf kvs
    · have hin' : x ∈ kvs.map (·.1) := hin
      simp only [decide_eq_true hin', Bool.not_true]
      simp
      exact tail _ _ true ed3 (by simp) (by simp) (by simp [deedOf]) (by simp) xa6 (by unfold dueX; exact xd6) (by simp [hin])
    · have hin' : x ∉ kvs.map (·.1) := hin
      simp only [decide_eq_false hin', Bool.not_false]
      simp
      rw [seq_eq]
      simp
      exact tail _ _ true ed3 (by simp) (by simp) (by simp [deedOf]) (by simp) xa6 (by unfold dueX; exact xd6) (by simp [hin])
  · rw [seq_eq]
    simp
    refine sp_free xa5 ht.key (by omega) ?_
    simp
    by_cases hfr : isFree (keysOf kvs) x = true
    · simp [hfr]
      exact tail _ _ false ed2 (by simp) (by simp) (by simp [deedOf]) (by simp) xa5 (by unfold dueX; exact xd5) (by simp [hfr])
    · have hfr' : isFree (keysOf kvs) x = false := by simpa using hfr
      simp [hfr']
      rw [seq_eq]
      simp
      exact tail _ _ false ed2 (by simp) (by simp) (by simp [deedOf]) (by simp) xa5 (by unfold dueX; exact xd5) (by simp [hfr'])
end Mine


end
noncomputable section
namespace Mine
open PySem PySem.W PyProof.Rows PySem.Calls
set_option maxRecDepth 100000
def adX (k : String) : Addr := match k with
  | "RoadError" => 24
  | "NoPath" => 37
  | "NoFile" => 49
  | "InTheWay" => 61
  | "NoClash" => 73
  | "Clashed" => 85
  | "NoVersion" => 97
  | "SameVersion" => 109
  | _ => 0
theorem ns_at (P : Params) : (ksX.map fun k => nsIn (Hd.kk P) mainGlobals (Str.ofString k)) = ksX.map fun k => some (some (.ref (adX k))) := by kernel_rfl
theorem xc_root (P : Params) : xcIn (Hd.kk P) 24 veBases = true := by kernel_rfl
theorem xc_at (P : Params) : (["NoPath", "NoFile", "InTheWay", "NoClash", "Clashed", "NoVersion", "SameVersion"].all fun k => xcIn (Hd.kk P) (adX k) (.ref 24 :: veBases)) = true := by kernel_rfl
theorem tab_of {C : Cx} {P : Params} (X : (Hd.kk P).In C.hB) (g : C.hB.Ns mainGlobals C.mg) (hv : C.mg (Str.ofString "ValueError") = Option.none) : XTab C csX ksX adX := by
  have mgk : ∀ k ∈ ksX, C.mg (Str.ofString k) = some (.ref (adX k)) := by
    intro k hk
    have h := ns_at P
    exact mg_of X g (List.map_inj_left.mp h k hk)
  have xck : ∀ k ∈ ["NoPath", "NoFile", "InTheWay", "NoClash", "Clashed", "NoVersion", "SameVersion"], XC C.hB (adX k) (.ref 24 :: veBases) := fun k hk => xc_of_in X (List.all_eq_true.mp (xc_at P) k hk)
  refine ⟨fun k hk => ⟨mgk k hk, ?_⟩, fun c hc => ?_, hv⟩
  · rcases List.mem_cons.mp hk with rfl | hk
    · exact ⟨_, xc_of_in X (xc_root P)⟩
    · exact ⟨_, xck k hk⟩
  · have hc' : c = "NoPath" ∨ c = "NoFile" ∨ c = "InTheWay" := by simpa [csX] using hc
    refine ⟨.ref 24 :: veBases, mgk c (by rcases hc' with rfl | rfl | rfl <;> decide), xck c (by rcases hc' with rfl | rfl | rfl <;> decide), by decide, ?_⟩
    rcases hc' with rfl | rfl | rfl <;> decide
theorem free_of {p : Program} {loose : List Str} {mean : ExcName → Option Value} {mg mb : Str → Option Value} {h : Heap} {x : String} (T : Top p loose mean mg mb h) (hf : (!(startupNames ++ loose ++ (recsOf p).map (·.name) ++ (litsOf p).map (·.1) ++ (clssOf p loose).map (·.name)).contains (Str.ofString x)) = true) : mg (Str.ofString x) = none := by
  simp only [Bool.not_eq_true', List.contains_eq_mem, decide_eq_false_iff_not, List.mem_append, not_or] at hf
  obtain ⟨⟨⟨⟨h1, h2⟩, h3⟩, h4⟩, h5⟩ := hf
  exact T.free _ h1 h2 h3 h4 h5
theorem ve_x : (!(startupNames ++ (looseW Hd.vw []) ++ (recsOf Hd.vw).map (·.name) ++ (litsOf Hd.vw).map (·.1) ++ (clssOf Hd.vw (looseW Hd.vw [])).map (·.name)).contains (Str.ofString "ValueError")) = true := by decide +kernel
theorem law_at {C : Cx} (G : Gl C Hd.vw) (hz : C.held = none) (Tb : XTab C csX ksX adX) (g1 : GInt C "LONGEST_PART" 12) (g2 : GStr C "SIGNS" (Str.ofString "abcdefghijklmnopqrstuvwxyzABCDEFGHIJKLMNOPQRSTUVWXYZ0123456789.-_")) (g3 : GInt C "MOST_PARTS" 8) : FnAtX C 4 "law" (sp_law C.ns) := by
  have h1 := f__law_cell_at G hz (s_cell C.ns)
  have h2 := f__law_sign_by G hz (s_sign C.ns)
  have h3 := f__law_name_by G hz h2 (s_name C.ns)
  have h4 := f__law_path_by G hz h3 (s_pathby C.ns)
  have h5 := f__law_line_by G hz (s_line C.ns)
  have h6 := f__law_is_free G hz (s_free C.ns)
  have h7 := f_is_part G hz g1 g2 (s_isp C.ns)
  have h8 := f_is_path G hz g3 h7 (s_path C.ns)
  have h9 := f_is_beneath G hz (s_ben C.ns)
  have h10 := f_done G hz Tb h8 h9 (s_done C.ns)
  have h11 := f__law_tree_by G hz h1 h4 h6 h5 (s_treeby C.ns)
  have h12 := f__law_told G hz Tb h10 (s_told C.ns adX)
  have h13 := f__law_path_asked G hz h1 h4 h3 (s_asked C.ns)
  exact f_law G hz h1 h11 h13 h5 h6 h12 (s_law C.ns)
theorem hf_x : (["len", "range", "min", "max", "isinstance", "bool", "str", "int", "list", "dict", "set", "sorted", "tuple", "sum", "type"].all fun x : String => !(startupNames ++ (looseW Hd.vw []) ++ (recsOf Hd.vw).map (·.name) ++ (litsOf Hd.vw).map (·.1) ++ (clssOf Hd.vw (looseW Hd.vw [])).map (·.name)).contains (Str.ofString x)) = true := by decide +kernel
theorem v1 : valOf Hd.vw (Str.ofString "LONGEST_PART") = some (.int 12) := by rfl
theorem v2 : valOf Hd.vw (Str.ofString "SIGNS") = some (.str (Str.ofString "abcdefghijklmnopqrstuvwxyzABCDEFGHIJKLMNOPQRSTUVWXYZ0123456789.-_")) := by rfl
theorem v3 : valOf Hd.vw (Str.ofString "MOST_PARTS") = some (.int 8) := by rfl
theorem hi_x : importsNone Hd.vw = true := by decide +kernel
end Mine
open PySem PySem.W PyProof.Rows PySem.Calls
set_option maxRecDepth 100000
set_option maxHeartbeats 8000000
theorem PySem.Challenge.cw_uf050007_04_holds : PySem.Challenge.rw_uf050007_04.Holds :=
  Mine.Hd.hd (by rfl) (by rfl) (by rfl) (by
  intro w s₀ s₁ mg mb G Y fa o pm cd doc dV kV ho hd hcd hD hmg hg args vals as hpre hlay hrd hwl hlo
  have KX := kIn_of Y
  have X := (Ground.X G).1
  have V := (Ground.X G).2
  refine Ground.open G ?_
  intro T B D TE TW
  try (refine guard_noD D (by decide +kernel) ?_; clear D)
  obtain ⟨_, _, M⟩ := bmod_of_top T
  wrow_args hpre hlay hrd hwl hlo
  all_goals first | refine callC_kw (enter_call ?_) | refine enter_call ?_ | refine callC_kw (enter_callW ?_) | refine enter_callW ?_ | w_how
  rename_i ns _ _ _ _ _ _ _ aS vs _ hL _ _ _ hI _ hn _
  have O : Mine.Cx.Ok ⟨PySem.Challenge.rw_uf050007_04.row.prog, w, s₁, aS, ns, mg, mb, none⟩ := Mine.Cx.ok_of rfl T Mine.hi_x hL hI hn
  have GG := Mine.Gl.of T O Mine.hf_x
  have hve : mg (Str.ofString "ValueError") = none := Mine.free_of T Mine.ve_x
  have Tb := Mine.tab_of (C := ⟨PySem.Challenge.rw_uf050007_04.row.prog, w, s₁, aS, ns, mg, mb, none⟩) (P := w.params) KX T.g hve
  have g1 : Mine.GInt ⟨PySem.Challenge.rw_uf050007_04.row.prog, w, s₁, aS, ns, mg, mb, none⟩ "LONGEST_PART" 12 := Mine.GInt.of T Mine.v1
  have g2 : Mine.GStr ⟨PySem.Challenge.rw_uf050007_04.row.prog, w, s₁, aS, ns, mg, mb, none⟩ "SIGNS" (Str.ofString "abcdefghijklmnopqrstuvwxyzABCDEFGHIJKLMNOPQRSTUVWXYZ0123456789.-_") := Mine.GStr.of T Mine.v2
  have g3 : Mine.GInt ⟨PySem.Challenge.rw_uf050007_04.row.prog, w, s₁, aS, ns, mg, mb, none⟩ "MOST_PARTS" 8 := Mine.GInt.of T Mine.v3
  obtain ⟨a, o', fd', e1, e2, e3, S⟩ := Mine.law_at GG rfl Tb g1 g2 g3
  have ea : a = fa := by
    have := e1.symm.trans hmg
    cases this; rfl
  subst ea
  exact Mine.law_endsX rfl S (by decide) hg (raisesW_false (by wrow_none_raised)) (by wrow_post))


end
