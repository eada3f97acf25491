import PyProof.Rows.All
import Wide.All
import OpenK.AllK
import Wide.FinOn
import PyProof.Walks
import PyProof.WalksMore
import PyProof.Cells
import PyProof.DictWalks
import PyProof.StrBlock
import PyProof.CompFree
import PyProof.StrCalls2
import PyProof.DefCall
import PyProof.MakeMany
import PyProof.CallType
import PyProof.Ns1
import PyProof.LetGo
import PyProof.PureInt
import PyProof.StrOps
import PyProof.Rows.RuleB_mod
import PyProof.Rows.RuleB_floordiv
import PyProof.Rows.RuleB_mul
import PyProof.Rows.RuleB_pow
import PyProof.Rows.RuleC_bool
import PyProof.Rows.EqNone
import PyProof.Rows.StrRules
import PyProof.Rows.IntBool
import PyProof.Raises
import PyProof.ForRange
import PyProof.RangeFor
import PyProof.StrWalks
import PyProof.IsiPairs
import PyProof.IsiHeapPairs
import PyProof.WalkInts
import PyProof.SliceMore
import PyProof.SliceStr2
import PyProof.EqAt
import PyProof.ListIndexNeg
import PyProof.StrCalls3
import PyProof.Rows.Tup
import PyProof.Rows.Lst
import PyProof.Rows.SeqMore
import PyProof.StrOps2
import PyProof.DictTruth
import PyProof.EqKinds
import PyProof.StrCalls
import PyProof.CallStr
import PyProof.Conv_int_bool
import PyProof.FactsAll.list
import PyProof.StrLawsOcc
import PyProof.FitsReplace
import PyProof.StrLawsTight
import PyProof.StrBlock2
import KE.KDictList
import KE.KItemsList
import KE.KDictOf
import PyProof.DictRoads
import PyProof.Rows.SortRuns
import PyProof.Rows.SortKey
import PyProof.Rows.SortShell
import PyProof.Rows.SortStr
import PyProof.Rows.SetFrom
import KE.KDictSum
import PyProof.Rows.TupReads
import KE.KEqDict
import PyProof.RaisesMany
import PyProof.StationsW
import PyProof.Rows.OwnQ
import PyProof.ExcBaseAll.ValueError
import PyProof.ExcAttrAll.ValueError
import PyProof.IsInstance
import PyProof.RulesAs
import PyProof.RulesDel
import PyProof.ObjNew
import PyProof.InstLoad
import PyProof.InstStoreFacts
import PyProof.AssignAttr
import PyProof.Rows.PlainNoArg
import KE.KRevIter
import PyProof.DictTable
import PyProof.Rows.MinMaxN
import PyProof.Rows.Range3
import PyProof.ListMulRoad
import PyProof.TupleIter
import PyProof.MeetsDictList
import PyProof.NeKinds
import PyProof.IsiH_list
import PySem.Challenge.RW_uf050007_11
set_option Elab.async false
set_option linter.unusedVariables false
set_option linter.unusedSimpArgs false
set_option autoImplicit false
namespace Mine
noncomputable section
@[elab_as_elim] theorem rwG.{u} {α:Sort u} {motive:α->Prop} {a b:α} (e:a=b) (p:motive b):motive a:=Eq.mpr (congrArg motive e) p
@[elab_as_elim] theorem rwH.{u} {α:Sort u} {motive:α->Prop} {b a:α} (e:b=a) (p:motive b):motive a:=Eq.mp (congrArg motive e) p
theorem bH {p0 p1:Prop} {g:Prop} (h:p0/\p1) (k:p0->p1->g):g:=k h.1 h.2
theorem vM {p0 p1 p2:Prop} {g:Prop} (h:p0/\p1/\p2) (k:p0->p1->p2->g):g:=k h.1 h.2.1 h.2.2
theorem ze {p0 p1 p2 p3:Prop} {g:Prop} (h:p0/\p1/\p2/\p3) (k:p0->p1->p2->p3->g):g:=k h.1 h.2.1 h.2.2.1 h.2.2.2
theorem x1_1.{u0} {A0:Sort u0} {p0:A0->Prop} {g:Prop} (h:∃x0,p0 x0) (k:∀x0,p0 x0->g):g:=h.elim fun x0 h=>k x0 h
theorem x1_2.{u0} {A0:Sort u0} {p0 p1:A0->Prop} {g:Prop} (h:∃x0,p0 x0/\p1 x0) (k:∀x0,p0 x0->p1 x0->g):g:=h.elim fun x0 h=>k x0 h.1 h.2
theorem x1_3.{u0} {A0:Sort u0} {p0 p1 p2:A0->Prop} {g:Prop} (h:∃x0,p0 x0/\p1 x0/\p2 x0) (k:∀x0,p0 x0->p1 x0->p2 x0->g):g:=h.elim fun x0 h=>k x0 h.1 h.2.1 h.2.2
theorem x1_4.{u0} {A0:Sort u0} {p0 p1 p2 p3:A0->Prop} {g:Prop} (h:∃x0,p0 x0/\p1 x0/\p2 x0/\p3 x0) (k:∀x0,p0 x0->p1 x0->p2 x0->p3 x0->g):g:=h.elim fun x0 h=>k x0 h.1 h.2.1 h.2.2.1 h.2.2.2
theorem x1_5.{u0} {A0:Sort u0} {p0 p1 p2 p3 p4:A0->Prop} {g:Prop} (h:∃x0,p0 x0/\p1 x0/\p2 x0/\p3 x0/\p4 x0) (k:∀x0,p0 x0->p1 x0->p2 x0->p3 x0->p4 x0->g):g:=h.elim fun x0 h=>k x0 h.1 h.2.1 h.2.2.1 h.2.2.2.1 h.2.2.2.2
theorem x1_6.{u0} {A0:Sort u0} {p0 p1 p2 p3 p4 p5:A0->Prop} {g:Prop} (h:∃x0,p0 x0/\p1 x0/\p2 x0/\p3 x0/\p4 x0/\p5 x0) (k:∀x0,p0 x0->p1 x0->p2 x0->p3 x0->p4 x0->p5 x0->g):g:=h.elim fun x0 h=>k x0 h.1 h.2.1 h.2.2.1 h.2.2.2.1 h.2.2.2.2.1 h.2.2.2.2.2
theorem x2_1.{u0,u1} {A0:Sort u0} {A1:Sort u1} {p0:A0->A1->Prop} {g:Prop} (h:∃x0,∃x1,p0 x0 x1) (k:∀x0,∀x1,p0 x0 x1->g):g:=h.elim fun x0 h=>h.elim fun x1 h=>k x0 x1 h
theorem x2_2.{u0,u1} {A0:Sort u0} {A1:Sort u1} {p0 p1:A0->A1->Prop} {g:Prop} (h:∃x0,∃x1,p0 x0 x1/\p1 x0 x1) (k:∀x0,∀x1,p0 x0 x1->p1 x0 x1->g):g:=h.elim fun x0 h=>h.elim fun x1 h=>k x0 x1 h.1 h.2
theorem x2_3.{u0,u1} {A0:Sort u0} {A1:Sort u1} {p0 p1 p2:A0->A1->Prop} {g:Prop} (h:∃x0,∃x1,p0 x0 x1/\p1 x0 x1/\p2 x0 x1) (k:∀x0,∀x1,p0 x0 x1->p1 x0 x1->p2 x0 x1->g):g:=h.elim fun x0 h=>h.elim fun x1 h=>k x0 x1 h.1 h.2.1 h.2.2
theorem x2_4.{u0,u1} {A0:Sort u0} {A1:Sort u1} {p0 p1 p2 p3:A0->A1->Prop} {g:Prop} (h:∃x0,∃x1,p0 x0 x1/\p1 x0 x1/\p2 x0 x1/\p3 x0 x1) (k:∀x0,∀x1,p0 x0 x1->p1 x0 x1->p2 x0 x1->p3 x0 x1->g):g:=h.elim fun x0 h=>h.elim fun x1 h=>k x0 x1 h.1 h.2.1 h.2.2.1 h.2.2.2
theorem x2_5.{u0,u1} {A0:Sort u0} {A1:Sort u1} {p0 p1 p2 p3 p4:A0->A1->Prop} {g:Prop} (h:∃x0,∃x1,p0 x0 x1/\p1 x0 x1/\p2 x0 x1/\p3 x0 x1/\p4 x0 x1) (k:∀x0,∀x1,p0 x0 x1->p1 x0 x1->p2 x0 x1->p3 x0 x1->p4 x0 x1->g):g:=h.elim fun x0 h=>h.elim fun x1 h=>k x0 x1 h.1 h.2.1 h.2.2.1 h.2.2.2.1 h.2.2.2.2
theorem x3_1.{u0,u1,u2} {A0:Sort u0} {A1:Sort u1} {A2:Sort u2} {p0:A0->A1->A2->Prop} {g:Prop} (h:∃x0,∃x1,∃x2,p0 x0 x1 x2) (k:∀x0,∀x1,∀x2,p0 x0 x1 x2->g):g:=h.elim fun x0 h=>h.elim fun x1 h=>h.elim fun x2 h=>k x0 x1 x2 h
theorem x3_2.{u0,u1,u2} {A0:Sort u0} {A1:Sort u1} {A2:Sort u2} {p0 p1:A0->A1->A2->Prop} {g:Prop} (h:∃x0,∃x1,∃x2,p0 x0 x1 x2/\p1 x0 x1 x2) (k:∀x0,∀x1,∀x2,p0 x0 x1 x2->p1 x0 x1 x2->g):g:=h.elim fun x0 h=>h.elim fun x1 h=>h.elim fun x2 h=>k x0 x1 x2 h.1 h.2
theorem x3_3.{u0,u1,u2} {A0:Sort u0} {A1:Sort u1} {A2:Sort u2} {p0 p1 p2:A0->A1->A2->Prop} {g:Prop} (h:∃x0,∃x1,∃x2,p0 x0 x1 x2/\p1 x0 x1 x2/\p2 x0 x1 x2) (k:∀x0,∀x1,∀x2,p0 x0 x1 x2->p1 x0 x1 x2->p2 x0 x1 x2->g):g:=h.elim fun x0 h=>h.elim fun x1 h=>h.elim fun x2 h=>k x0 x1 x2 h.1 h.2.1 h.2.2
theorem x3_4.{u0,u1,u2} {A0:Sort u0} {A1:Sort u1} {A2:Sort u2} {p0 p1 p2 p3:A0->A1->A2->Prop} {g:Prop} (h:∃x0,∃x1,∃x2,p0 x0 x1 x2/\p1 x0 x1 x2/\p2 x0 x1 x2/\p3 x0 x1 x2) (k:∀x0,∀x1,∀x2,p0 x0 x1 x2->p1 x0 x1 x2->p2 x0 x1 x2->p3 x0 x1 x2->g):g:=h.elim fun x0 h=>h.elim fun x1 h=>h.elim fun x2 h=>k x0 x1 x2 h.1 h.2.1 h.2.2.1 h.2.2.2
set_option compiler.extract_closed false
open Lean in
set_option compiler.extract_closed false in def mst (l : List Syntax) (w : String) : List Syntax :=
 let f (k:String):Name:=(k.splitOn ".").foldl .str .anonymous
 match w.splitOn "/" with
 |[a]=>.ident .none a.toRawSubstring (f a) []::l
 |[k,n]=>.node .none (f k) (l.take n.length).reverse.toArray::l.drop n.length
 |a=>.atom .none (a.getLastD "")::l
set_option compiler.extract_closed false in def mab : List String → String → String
 |a::b::l,w=>mab l (String.intercalate b (w.splitOn a))
 |_,w=>w
open Lean in
set_option compiler.extract_closed false in def msx (l : List Syntax) (w : String) : List Syntax := ((mab ("$@ null/iiiii E:app/ii@!@'| 'apply @~@T:show/ii '; 'first @^@ T:first/ii null/iii ? group/ii@#@T:apply/ii '<;> 'trivial T:tacticTrivial/i T:tactic_<;>_/iii null/i ? group/ii@&@'by 'assumption T:assumption/i null/i ? E:byTactic/ii@?@T:tacticSeq1Indented/i T:tacticSeq/i@_ @'_ E:hole/i @'@//@T:@Lean.Parser.Tactic.@E:@Lean.Parser.Term.@//= @//? ".splitOn "@") w).splitOn " ").foldl mst l
open Lean in
local macro_rules (kind:=Lean.Parser.Tactic.rewriteSeq) | s=>do
 unless s[3].isNone do Macro.throwUnsupported
 let r:=s[2][1].getArgs.toList
 let e:=r.headD .missing
 let l:=if r.length == 1 then msx (e[1]::msx [] ("'first '| 'refine rw"++if e[0].isNone then "G" else "H")) "'.. E:ellipsis/i null/i E:app/ii '= '_ E:syntheticHole/ii null/ii E:app/ii T:refine/ii null/i ? group/ii '| 'fail null/ T:fail/ii null/i ? group/ii null/ii T:first/ii"
  else
   let f (l:List Syntax):=s.setArg 2 (s[2].setArg 1 (.node .none `null l.toArray))
   msx [f (r.drop 2),.atom .none ";",f [e],.atom .none "("] "null/iii ? ') T:paren/iii"
 return l.headD .missing
abbrev LT':=Nat.Internal.Linear.Expr
abbrev LT'.v (i:Nat):LT':=.var i
abbrev LT'.n (k:Nat):LT':=.num k
abbrev LT'.a (x y:LT'):LT':=.add x y
abbrev LT'.m (k:Nat) (x:LT'):LT':=.mulL k x
noncomputable def xB (l:List Nat):Nat->Lean.RArray Nat:=l.rec (fun _=>.leaf 0) fun a _ k i=>.branch (i+1) (.leaf a) (k (i+1))
abbrev Cert:=List (Nat×LT'×LT')
noncomputable def Cert.den (c:List Nat) (t:Cert) (g:Prop):Prop:=t.rec g fun q _ r=>q.2.1.denote (xB c 0)<=q.2.2.denote (xB c 0)->r
noncomputable def Cert.sum (t:Cert):LT'×LT':=t.rec (.num 0,.num 0) fun q _ s=>(.add (.mulL q.1 q.2.1) s.1,.add (.mulL q.1 q.2.2) s.2)
noncomputable def Cert.ok (t:Cert):Bool:=(Nat.Internal.Linear.ExprCnstr.mk false t.sum.1 t.sum.2).toNormPoly.isUnsat
theorem qx (c:List Nat) (g:Prop) (t:Cert):(t.sum.1.denote (xB c 0)<=t.sum.2.denote (xB c 0)->g)->Cert.den c t g:=
 t.rec (fun h=>h (Nat.le_refl _)) fun q _ k h e=>k fun e2=>h (Nat.add_le_add (Nat.mul_le_mul_left q.1 e) e2)
theorem A4 (c:List Nat) (t:Cert) (h:t.ok=true):Cert.den c t False:=qx c False t fun e=>(Nat.Internal.Linear.ExprCnstr.eq_false_of_isUnsat (xB c 0) (.mk false _ _) h).mp e
theorem kH (a b:Nat):a<=a-b+b:=Nat.sub_le_iff_le_add.mp (Nat.le_refl _)
theorem fD {a b:Nat} (h:b<=a):a-b+b<=a:=Nat.le_of_eq (Nat.sub_add_cancel h)
theorem kG (a b:Nat):a-b+b=a\/a-b=0:=(Nat.le_total b a).imp Nat.sub_add_cancel Nat.sub_eq_zero_of_le
theorem z7 (a k:Nat):k*(a / k)<=a:=Nat.mul_div_le a k
theorem z8 (a k:Nat) (h:0 < k):a < k*(a / k)+k:=Nat.lt_of_le_of_lt (Nat.le_of_eq (Nat.div_add_mod a k).symm) (Nat.add_lt_add_left (Nat.mod_lt a h) _)
theorem t7 (a b:Nat):a<=min a b\/b<=min a b:=(Nat.le_total a b).imp (fun h=>Nat.le_min.mpr ⟨Nat.le_refl _,h⟩) (fun h=>Nat.le_min.mpr ⟨h,Nat.le_refl _⟩)
theorem zF (a b:Nat):max a b<=a\/max a b<=b:=(Nat.le_total b a).imp (fun h=>Nat.max_le.mpr ⟨Nat.le_refl _,h⟩) (fun h=>Nat.max_le.mpr ⟨h,Nat.le_refl _⟩)
theorem gY {a b:Nat} (h:¬a < b):b<=a:=Nat.le_of_not_lt h
theorem sK {a b:Nat} (h:¬a<=b):b < a:=Nat.lt_of_not_le h
theorem jW {α:Type} {l:List α} {i:Nat} (h:l.drop i=[]) (hi:i<=l.length):i=l.length:=Nat.le_antisymm hi (List.drop_eq_nil_iff.mp h)
theorem mK {α:Type} {l r:List α} {x:α} {i:Nat} (h:l.drop i=x::r):i < l.length:=Nat.lt_of_not_le fun g=>by rw[List.drop_eq_nil_of_le g] at h;cases h
theorem At {a j L c d k:Nat} (h:a+c*(j+1)+d < L) (hk:k<=c):a+k+c*j+d < L:=
 Nat.lt_of_le_of_lt (Nat.add_le_add_right (by rw[Nat.add_assoc,Nat.add_comm k];exact Nat.add_le_add_left (Nat.add_le_add_left hk _) a) d) h
noncomputable def dT (n:Nat):Nat->(LT'->Nat->Cert)->Cert:=n.rec (fun _ _=>[]) fun _ d c k=>
 bif Nat.beq (c % 32) 0 then d (c / 32) fun x r=>d r fun y s=>k (.add x y) s
  else bif Nat.beq (c % 32) 3 then d (c / 32) fun x r=>k (.add x (.num 1)) r
  else bif Nat.beq (c % 32) 1 then k (.num (c / 1024 % 32 ^ (c / 32 % 32))) (c / 1024 / 32 ^ (c / 32 % 32))
  else bif Nat.beq (c % 32) 2 then d (c / 1024) fun x r=>k (.mulL (c / 32 % 32) x) r
  else k (.var (c % 32-4)) (c / 32)
noncomputable def dR (n:Nat):Nat->Cert:=n.rec (fun _=>[]) fun _ d c=>bif Nat.beq c 0 then [] else dT 12 (c / 32) fun x r=>dT 12 r fun y s=>(c % 32,x,y)::d s
theorem lN (c:List Nat) (n:Nat) (h:(dR 20 n).ok=true):Cert.den c (dR 20 n) False:=A4 c (dR 20 n) h
set_option tactic.hygienic false
open PySem
inductive V where
 |none
 |bool (b:Bool)
 |int (i:Int)
 |str (s:Str)
 |ref (a:Addr)
 |script
 |ty (n:String)
 |tup (vs:List V)
inductive AObj where
 |list (xs:List V)
 |dict (kvs:List (Str×V)) (ep:Nat)
 |idict (kvs:List (Int×V)) (ep:Nat)
 |inst (dx:Addr)
 |ns (fs:List (String×V))
abbrev ae:=Addr->Option AObj
abbrev aq:=String->Option V
noncomputable def am (σ:ae) (a:Addr) (o:AObj):ae:=fun b=>if b=a then some o else σ b
@[reducible] noncomputable def put (m:aq) (x:String) (v:V):aq:=fun y=>bif y == x then some v else m y
@[simp] theorem af (σ:ae) (a:Addr) (o:AObj):am σ a o a=some o:=by simp[am]
theorem an {σ:ae} {a b:Addr} {o:AObj} (h:b≠a):am σ a o b=σ b:=by simp[am,h]
theorem aW {σ:ae} {a b:Addr} {o o':AObj} (ha:σ a=none) (hb:σ b=some o'):am σ a o b=some o':=by
 rw[an (by rintro rfl;rw[ha] at hb;cases hb),hb]
@[simp low] theorem fP (m:aq) (x:String) (v:V):put m x v x=some v:=by simp[put]
theorem aj {m:aq} {x y:String} {v:V} (h:y≠x):put m x v y=m y:=by unfold put;rw[beq_false_of_ne h];rfl
structure Cx where
 prog:Program
 w:World
 s₁:Shared
 aS:Addr
 ns:List Int
 mg:Str->Option Value
 mb:Str->Option Value
 held:Option Addr:=none
abbrev Cx.hB (C:Cx):Heap:=C.s₁.heap
structure Cx.Ok (C:Cx):Prop where
 g:C.hB.Ns mainGlobals C.mg
 b:C.hB.Ns builtinsNs C.mb
 nolimit:C.hB.NoLimit
 mods:∃o,C.hB.get? sysModules=some o
 few:C.ns.length<=63
 heldOk:∀e,C.held=some e->∃o vs,C.hB.get? e=some o/\o.data=.fields vs/\vs[2]?=some .none
 script:∃ws,C.hB.IsList C.aS ws/\ws.toList.length=C.ns.length/\∀(i:Nat) n,C.ns[i]?=some n->∃t,ws.toList[i]?=some (Value.int n t)
theorem Cx.Ok.noMods {C:Cx} (O:C.Ok) {a:Addr} (h:C.hB.get? a=none):(a == sysModules)=false:=by
 refine x1_1 O.mods fun o ho=>?_
 simp only[beq_eq_false_iff_ne]
 rintro rfl
 rw[ho] at h;cases h
mutual
inductive VRel (aS:Addr) (h:Heap):V->Value->Prop
 |none:VRel aS h .none .none
 |bool (b:Bool):VRel aS h (.bool b) (.bool b)
 |int (i:Int) (t:Tok):VRel aS h (.int i) (.int i t)
 |str (x:Str) (t:Tok):VRel aS h (.str x) (.str x t)
 |ref (a:Addr):VRel aS h (.ref a) (.ref a)
 |script:VRel aS h .script (.ref aS)
 |ty (n:String):VRel aS h (.ty n) (.type n)
 |tup {vs:List V} {a:Addr} {ws:List Value}:h.IsTuple a ws.toArray->VRels aS h vs ws->VRel aS h (.tup vs) (.ref a)
inductive VRels (aS:Addr) (h:Heap):List V->List Value->Prop
 |nil:VRels aS h [] []
 |cons {v:V} {w:Value} {vs:List V} {ws:List Value}:VRel aS h v w->VRels aS h vs ws->VRels aS h (v::vs) (w::ws)
end
noncomputable def d4 (o:Obj):Prop:=o.cls=.type "tuple"/\∃it n,o.data=.seq it n
noncomputable def ar (h h':Heap):Prop:=∀b o,h.get? b=some o->d4 o->h'.get? b=some o
theorem VRel.keep {aS:Addr} {h h':Heap} (k:ar h h') {v:V} {w:Value} (x:VRel aS h v w):VRel aS h' v w:=
 VRel.rec (motive_1:=fun v w _=>VRel aS h' v w) (motive_2:=fun vs ws _=>VRels aS h' vs ws) .none .bool .int .str .ref .script .ty (fun ht _ ih=>.tup (let ⟨o,ho,hc,r⟩:=ht;⟨o,k _ o ho ⟨hc,_,r⟩,hc,r⟩) ih) .nil (fun _ _ a b=>.cons a b) x
theorem VRels.inv0 {aS:Addr} {h:Heap} {ws:List Value} (x:VRels aS h [] ws):ws=[]:=by cases x;rfl
theorem VRels.invC {aS:Addr} {h:Heap} {a:V} {as:List V} {ws:List Value} (x:VRels aS h (a::as) ws):∃w ws',ws=w::ws'/\VRel aS h a w/\VRels aS h as ws':=by
 cases x with
 |cons h1 r=>exact⟨_,_,rfl,h1,r⟩
theorem VRels.ind {aS:Addr} {h:Heap} {P:List V->List Value->Prop} (h0:P [] []) (h1:∀v w vs ws,VRel aS h v w->VRels aS h vs ws->P vs ws->P (v::vs) (w::ws)) {vs:List V} {ws:List Value} (x:VRels aS h vs ws):P vs ws:=by
 induction vs generalizing ws with
 |nil=>rw[x.inv0];exact h0
 |cons v vs ih=>obtain ⟨w,ws,rfl,a,r⟩:=x.invC;exact h1 _ _ _ _ a r (ih r)
theorem VRels.keep {aS:Addr} {h h':Heap} (k:ar h h') {vs:List V} {ws:List Value} (x:VRels aS h vs ws):VRels aS h' vs ws:=
 x.ind .nil fun _ _ _ _ a _ ih=>.cons (a.keep k) ih
theorem VRels.length {aS:Addr} {h:Heap} {vs:List V} {ws:List Value} (x:VRels aS h vs ws):vs.length=ws.length:=
 x.ind (P:=fun vs ws=>vs.length=ws.length) rfl fun _ _ _ _ _ _ ih=>congrArg (·+1) ih
theorem VRels.get {aS:Addr} {h:Heap} {vs:List V} {ws:List Value} (x:VRels aS h vs ws):∀{i:Nat} {v:V},vs[i]?=some v->∃w,ws[i]?=some w/\VRel aS h v w:=
 x.ind (P:=fun vs ws=>∀{i:Nat} {v:V},vs[i]?=some v->∃w,ws[i]?=some w/\VRel aS h v w) (fun e=>by cases e) fun _ w _ _ a _ ih i _ e=>by
  cases i with
  |zero=>cases Option.some.inj e;exact⟨w,rfl,a⟩
  |succ i=>exact ih e
theorem VRels.get' {aS:Addr} {h:Heap} {vs:List V} {ws:List Value} (x:VRels aS h vs ws):∀{i:Nat} {w:Value},ws[i]?=some w->∃v,vs[i]?=some v/\VRel aS h v w:=
 x.ind (P:=fun vs ws=>∀{i:Nat} {w:Value},ws[i]?=some w->∃v,vs[i]?=some v/\VRel aS h v w) (fun e=>by cases e) fun v _ _ _ a _ ih i _ e=>by
  cases i with
  |zero=>cases Option.some.inj e;exact⟨v,rfl,a⟩
  |succ i=>exact ih e
theorem VRel.invStr {aS:Addr} {h:Heap} {x:Str} {w:Value} (r:VRel aS h (.str x) w):∃t,w=.str x t:=by cases r;exact⟨_,rfl⟩
theorem VRel.invRef {aS:Addr} {h:Heap} {x:Addr} {w:Value} (r:VRel aS h (.ref x) w):w=.ref x:=by cases r;rfl
theorem VRel.invBool {aS:Addr} {h:Heap} {x:Bool} {w:Value} (r:VRel aS h (.bool x) w):w=.bool x:=by cases r;rfl
theorem VRel.invNone {aS:Addr} {h:Heap} {w:Value} (r:VRel aS h .none w):w=.none:=by cases r;rfl
theorem VRel.invTy {aS:Addr} {h:Heap} {x:String} {w:Value} (r:VRel aS h (.ty x) w):w=.type x:=by cases r;rfl
theorem VRel.invScript {aS:Addr} {h:Heap} {w:Value} (r:VRel aS h .script w):w=.ref aS:=by cases r;rfl
theorem VRel.invTup {aS:Addr} {h:Heap} {vs:List V} {w:Value} (r:VRel aS h (.tup vs) w):∃a ws,w=.ref a/\h.IsTuple a (List.toArray ws)/\VRels aS h vs ws:=by cases r with | tup ht hs=>exact⟨_,_,rfl,ht,hs⟩
theorem VRel.invInt {aS:Addr} {h:Heap} {x:Int} {w:Value} (r:VRel aS h (.int x) w):∃t,w=.int x t:=by cases r;exact⟨_,rfl⟩
theorem VRels.append {aS:Addr} {h:Heap} {vs vs':List V} {ws ws':List Value} (x:VRels aS h vs ws) (y:VRels aS h vs' ws'):VRels aS h (vs++vs') (ws++ws'):=
 x.ind (P:=fun vs ws=>VRels aS h (vs++vs') (ws++ws')) y fun _ _ _ _ a _ ih=>.cons a ih
noncomputable def PRel {K:Type} (aS:Addr) (h:Heap):List (K×V)->List (K×Value)->Prop
 |[],[]=>True
 |(k,v)::r,(k',w)::r'=>k=k'/\VRel aS h v w/\PRel aS h r r'
 |_,_=>False
theorem PRel.ind {K:Type} {aS:Addr} {h:Heap} {P:List (K×V)->List (K×Value)->Prop} (h0:P [] []) (h1:∀k v w r r',VRel aS h v w->PRel aS h r r'->P r r'->P ((k,v)::r) ((k,w)::r')) {a:List (K×V)} {b:List (K×Value)} (x:PRel aS h a b):P a b:=by
 induction a generalizing b with
 |nil=>cases b with
  |nil=>exact h0
  |cons _ _=>exact False.elim x
 |cons p a ih=>cases b with
  |nil=>exact False.elim x
  |cons q b=>
   obtain ⟨k,v⟩:=p
   obtain ⟨k',w⟩:=q
   have y:k=k'/\VRel aS h v w/\PRel aS h a b:=x
   obtain ⟨rfl,y,r⟩:=y
   exact h1 _ _ _ _ _ y r (ih r)
theorem PRel.keep {K:Type} {aS:Addr} {h h':Heap} (k:ar h h') {a:List (K×V)} {b:List (K×Value)} (x:PRel aS h a b):PRel aS h' a b:=
 x.ind trivial fun _ _ _ _ _ v _ ih=>⟨rfl,v.keep k,ih⟩
theorem PRel.length {K:Type} {aS:Addr} {h:Heap} {a:List (K×V)} {b:List (K×Value)} (x:PRel aS h a b):a.length=b.length:=
 x.ind (P:=fun a b=>a.length=b.length) rfl fun _ _ _ _ _ _ _ ih=>congrArg (·+1) ih
theorem PRel.get {K:Type} {aS:Addr} {h:Heap} {a:List (K×V)} {b:List (K×Value)} (x:PRel aS h a b):∀{i:Nat} {k:K} {v:V},a[i]?=some (k,v)->∃w,b[i]?=some (k,w)/\VRel aS h v w:=
 x.ind (P:=fun a b=>∀{i:Nat} {k:K} {v:V},a[i]?=some (k,v)->∃w,b[i]?=some (k,w)/\VRel aS h v w) (fun e=>by simp at e) fun _ _ w _ _ hv _ ih i _ _ e=>by
  cases i with
  |zero=>cases Option.some.inj e;exact⟨w,rfl,hv⟩
  |succ i=>exact ih e
noncomputable def ObjRel (C:Cx) (h:Heap) (a:Addr):AObj->Prop
 |.list xs=>xs.length<=16777216/\∃ws:List Value,h.PlainList a ws.toArray/\VRels C.aS h xs ws
 |.dict kvs ep=>kvs.length<=16777216/\∃kws,h.DictAt (strKind C.prog C.w) a kws ep/\PRel C.aS h kvs kws
 |.idict kvs ep=>kvs.length<=16777216/\∃kws,h.DictAt (intKind C.prog C.w) a kws ep/\PRel C.aS h kvs kws
 |.inst dx=>∃cl,C.mg (Str.ofString "Book")=some (.ref cl)/\dx≠a/\h.get? a=some {cls:=.ref cl,dict:=some dx,data:=.plain}
 |.ns fs=>fs.length<=1000/\∃mA:Str->Option Value,h.Ns1 a mA/\(∀x v,fs.lookup x=some v->∃w,mA (Str.ofString x)=some w/\VRel C.aS h v w)/\∀y:Str,(∀q∈fs,y≠Str.ofString q.1)->mA y=none
theorem ObjRel.keep {C:Cx} {h h':Heap} {a:Addr} {o:AObj} (x:ObjRel C h a o) (k:ar h h') (ka:∀o,h.get? a=some o->h'.get? a=some o):ObjRel C h' a o:=by
 cases o with
 |list xs=>obtain ⟨hz,ws,h1,h2⟩:=x;exact⟨hz,ws,h1.at ka,h2.keep k⟩
 |dict kvs ep=>obtain ⟨hz,ws,h1,h2⟩:=x;exact⟨hz,ws,h1.at' ka,h2.keep k⟩
 |idict kvs ep=>obtain ⟨hz,ws,h1,h2⟩:=x;exact⟨hz,ws,h1.at' ka,h2.keep k⟩
 |inst dx=>refine x1_3 x fun cl h1 h2 h3=>?_;clear x;exact⟨cl,h1,h2,ka _ h3⟩
 |ns fs=>obtain ⟨hz,mA,h1,h2,h3⟩:=x;exact⟨hz,mA,h1.at ka,fun y v e=>let ⟨w,a,b⟩:=h2 y v e;⟨w,a,b.keep k⟩,h3⟩
theorem ObjRel.shape {C:Cx} {h:Heap} {a:Addr} {o:AObj} (x:ObjRel C h a o):∃ob,h.get? a=some ob/\¬d4 ob/\∀v,ob.data≠.cell v:=by
 cases o with
 |list xs=>obtain ⟨_,ws,⟨n,h1⟩,h2⟩:=x;exact⟨_,h1,by simp[d4],by simp⟩
 |dict kvs ep=>obtain ⟨_,ws,⟨o,es,ho,hc,hd,_⟩,h2⟩:=x;exact⟨o,ho,by simp[d4,hd],by rw[hd];simp⟩
 |idict kvs ep=>obtain ⟨_,ws,⟨o,es,ho,hc,hd,_⟩,h2⟩:=x;exact⟨o,ho,by simp[d4,hd],by rw[hd];simp⟩
 |inst dx=>refine x1_3 x fun cl h1 h2 h3=>?_;clear x;exact⟨_,h3,by simp[d4],by simp⟩
 |ns fs=>obtain ⟨_,mA,⟨o,es,ep,ho,hd,_⟩,h2⟩:=x;exact⟨o,ho,by simp[d4,hd],by rw[hd];simp⟩
structure RelG (C:Cx) (σ:ae) (s:Shared):Prop where
 rest:∃h tk d,s={C.s₁ with heap:=h,toks:=tk,drawn:=d}
 base:∀b o,C.hB.get? b=some o->s.heap.get? b=some o
 view:∀a o,σ a=some o->ObjRel C s.heap a o
 apart:∀a,σ a≠none->C.hB.get? a=none
noncomputable def Like (o o':Obj):Prop:=o'=o\/((∃es ep,o.data=.dict es ep)/\∃sl,o'={o with slots:=sl})
theorem Like.refl (o:Obj):Like o o:=.inl rfl
theorem Like.trans {a b c:Obj} (x:Like a b) (y:Like b c):Like a c:=by
 rcases x with rfl | ⟨⟨es,ep,hd⟩,sl,rfl⟩
 ·exact y
 ·rcases y with rfl | ⟨_,sl',rfl⟩
  ·exact .inr ⟨⟨es,ep,hd⟩,sl,rfl⟩
  ·exact .inr ⟨⟨es,ep,hd⟩,sl',rfl⟩
theorem Like.ns {h h':Heap} {a:Addr} {m:Str->Option Value} (hn:h.Ns a m) (k:∀o,h.get? a=some o->∃o',h'.get? a=some o'/\Like o o'):h'.Ns a m:=by
 refine x3_3 hn fun o es ep ho hd r=>?_;clear hn
 refine x1_2 (k o ho) fun o' ho' hl=>?_
 rcases hl with rfl | ⟨_,sl,rfl⟩
 ·exact⟨_,es,ep,ho',hd,r⟩
 ·exact⟨_,es,ep,ho',hd,r⟩
structure Step (own:Addr->Prop) (σ σ':ae) (h h':Heap):Prop where
 keepL:∀b o,h.get? b=some o->σ b=none->¬own b->∃o',h'.get? b=some o'/\Like o o'
 size:h.objs.size<=h'.objs.size
 new:∀b,σ b=none->σ' b≠none->h.objs.size<=b
noncomputable def no:Addr->Prop:=fun _=>False
theorem Step.of {own:Addr->Prop} {σ σ':ae} {h h':Heap} (k:∀b o,h.get? b=some o->σ b=none->¬own b->h'.get? b=some o) (size:h.objs.size<=h'.objs.size) (new:∀b,σ b=none->σ' b≠none->h.objs.size<=b):Step own σ σ' h h':=
 ⟨fun b o e n q=>⟨o,k b o e n q,Like.refl o⟩,size,new⟩
theorem Step.keep {own:Addr->Prop} {σ σ':ae} {h h':Heap} (x:Step own σ σ' h h') (b:Addr) (o:Obj) (e:h.get? b=some o) (n:σ b=none) (q:¬own b) (hd:∀es ep,o.data≠.dict es ep):h'.get? b=some o:=by
 refine x1_2 (x.keepL b o e n q) fun o' h1 h2=>?_
 rcases h2 with rfl | ⟨⟨es,ep,z⟩,_⟩
 ·exact h1
 ·exact absurd z (hd es ep)
theorem Step.mono {own own':Addr->Prop} {σ σ':ae} {h h':Heap} (x:Step own σ σ' h h') (k:∀b o,h.get? b=some o->own b->own' b):Step own' σ σ' h h':=
 ⟨fun b o e n q=>x.keepL b o e n fun z=>q (k b o e z),x.size,x.new⟩
theorem RelG.dom {C:Cx} {σ:ae} {s:Shared} (R:RelG C σ s):∀b,σ b≠none->s.heap.get? b≠none:=fun b hb=>by
 cases e:σ b with
 |none=>exact absurd e hb
 |some o=>refine x1_2 ((R.view b o e).shape) fun ob h1 _=>?_;rw[h1];simp
theorem Step.refl {own:Addr->Prop} {σ:ae} {h:Heap}:Step own σ σ h h:=
 .of (fun _ _ e _ _=>e) (Nat.le_refl _) fun _ h h'=>absurd h h'
theorem Step.trans {own:Addr->Prop} {σ₁ σ₂ σ₃:ae} {h₁ h₂ h₃:Heap} (x:Step own σ₁ σ₂ h₁ h₂) (y:Step own σ₂ σ₃ h₂ h₃):Step own σ₁ σ₃ h₁ h₃ where
 keepL:=fun b o e n q=>by
  refine x1_2 (x.keepL b o e n q) fun o' h1 h2=>?_
  obtain ⟨o'',h3,h4⟩:=y.keepL b o' h1 (by
   cases z:σ₂ b with
   |none=>rfl
   |some o'=>have:=x.new b n (by rw[z];simp);exact absurd (Heap.lt_size e) (Nat.not_lt.mpr this)) q
  exact⟨o'',h3,h2.trans h4⟩
 size:=Nat.le_trans x.size y.size
 new:=fun b n m=>by
  cases z:σ₂ b with
  |some o'=>exact x.new b n (by rw[z];simp)
  |none=>exact Nat.le_trans x.size (y.new b z m)
theorem Step.tups {C:Cx} {own:Addr->Prop} {σ σ':ae} {s:Shared} {h':Heap} (R:RelG C σ s) (x:Step own σ σ' s.heap h') (ho:∀b o,own b->s.heap.get? b=some o->¬d4 o):ar s.heap h':=fun b o e hc=>
 x.keep b o e (by
  cases z:σ b with
  |none=>rfl
  |some o'=>refine x1_3 ((R.view b o' z).shape) fun ob h1 h2 _=>?_;rw[e] at h1;cases Option.some.inj h1;exact absurd hc h2) (fun z=>ho b o z e hc) (fun es ep z=>by obtain ⟨_,it,n,hd⟩:=hc;rw[hd] at z;cases z)
theorem Step.tupsN {C:Cx} {σ σ':ae} {s:Shared} {h':Heap} (R:RelG C σ s) (x:Step no σ σ' s.heap h'):ar s.heap h':=x.tups R fun _ _ z=>z.elim
theorem RelG.grow {C:Cx} {σ:ae} {s:Shared} {h':Heap} {tk:Nat} (R:RelG C σ s) (k:∀b o,s.heap.get? b=some o->h'.get? b=some o):RelG C σ {s with heap:=h',toks:=tk} where
 rest:=let ⟨_,_,d,e⟩:=R.rest;⟨h',tk,d,by rw[e]⟩
 base:=fun b o e=>k b o (R.base b o e)
 view:=fun a o e=>(R.view a o e).keep (fun b o e _=>k b o e) fun o e=>k a o e
 apart:=R.apart
theorem Step.grow {own:Addr->Prop} {σ:ae} {h h':Heap} (k:∀b o,h.get? b=some o->h'.get? b=some o) (z:h.objs.size<=h'.objs.size):Step own σ σ h h':=
 .of (fun b o e _ _=>k b o e) z fun _ h h'=>absurd h h'
theorem Step.push {own:Addr->Prop} {σ:ae} {h:Heap} {o:Obj}:Step own σ σ h (h.push o):=.grow (fun _ _ e=>Heap.get?_push_of_some _ e) (by rw[Heap.size_push];exact Nat.le_succ _)
theorem RelG.draw {C:Cx} {σ:ae} {s:Shared} (R:RelG C σ s) (d:Drawn):RelG C σ {s with drawn:=d} where
 rest:=let ⟨h,tk,_,e⟩:=R.rest;⟨h,tk,d,by rw[e]⟩
 base:=R.base
 view:=R.view
 apart:=R.apart
theorem RelG.tok {C:Cx} {σ:ae} {s:Shared} (R:RelG C σ s) (tk:Nat):RelG C σ {s with toks:=tk}:=R.grow fun _ _ e=>e
theorem RelG.freshNone {C:Cx} {σ:ae} {s:Shared} (R:RelG C σ s) {a:Addr} (h:s.heap.get? a=none):σ a=none:=by
 cases e:σ a with
 |none=>rfl
 |some o=>exact absurd h (R.dom a (by rw[e];simp))
theorem aH (h:Heap):h.get? h.objs.size=none:=by
 cases e:h.get? h.objs.size with
 |none=>rfl
 |some o=>exact absurd (Heap.lt_size e) (Nat.lt_irrefl _)
theorem RelG.baseNone {C:Cx} {σ:ae} {s:Shared} (R:RelG C σ s) {a:Addr} (h:s.heap.get? a=none):C.hB.get? a=none:=by
 cases e:C.hB.get? a with
 |none=>rfl
 |some o=>rw[R.base a o e] at h;cases h
theorem RelG.add {C:Cx} {σ:ae} {s:Shared} {h':Heap} {tk:Nat} {a:Addr} {o:AObj} (R:RelG C σ s) (k:∀b o,s.heap.get? b=some o->h'.get? b=some o) (hn:s.heap.get? a=none) (ho:ObjRel C h' a o) :
  RelG C (am σ a o) {s with heap:=h',toks:=tk} where
 rest:=(R.grow (tk:=tk) k).rest
 base:=(R.grow (tk:=tk) k).base
 view:=fun b o' e=>by
  by_cases hb:b=a
  ·subst hb;rw[af] at e;cases Option.some.inj e;exact ho
  ·rw[an hb] at e;exact (R.grow (tk:=tk) k).view b o' e
 apart:=fun b hb=>by
  by_cases q:b=a
  ·subst q;exact R.baseNone hn
  ·rw[an q] at hb;exact R.apart b hb
theorem Step.add {own:Addr->Prop} {σ:ae} {h h':Heap} {a:Addr} {o:AObj} (k:∀b o,h.get? b=some o->h'.get? b=some o) (z:h.objs.size<=h'.objs.size) (hn:h.objs.size<=a):Step own σ (am σ a o) h h':=
 .of (fun b o e _ _=>k b o e) z fun b n m=>by
  by_cases q:b=a
  ·subst q;exact hn
  ·rw[an q] at m;exact absurd n m
theorem Step.addPush {own:Addr->Prop} {σ:ae} {h:Heap} {ob:Obj} {o:AObj}:Step own σ (am σ h.objs.size o) h (h.push ob):=.add (fun _ _ e=>Heap.get?_push_of_some _ e) (by rw[Heap.size_push];exact Nat.le_succ _) (Nat.le_refl _)
theorem RelG.change {C:Cx} {σ:ae} {s:Shared} {h':Heap} {tk:Nat} {a:Addr} {o o':AObj} (R:RelG C σ s) (ha:σ a=some o) (k:Heap.SameBut a s.heap h') (ho:ObjRel C h' a o'):RelG C (am σ a o') {s with heap:=h',toks:=tk} where
 rest:=let ⟨_,_,d,e⟩:=R.rest;⟨h',tk,d,by rw[e]⟩
 base:=fun b o e=>(k.2 b (by rintro rfl;rw[R.apart b (by rw[ha];simp)] at e;cases e)).trans (R.base b o e)
 view:=fun b o₂ e=>by
  by_cases hb:b=a
  ·subst hb;rw[af] at e;cases Option.some.inj e;exact ho
  ·rw[an hb] at e
   refine (R.view b o₂ e).keep (fun c oc ec hc=>?_) fun oc ec=>(k.2 b hb).trans ec
   exact (k.2 c (by rintro rfl;refine x1_3 ((R.view c o ha).shape) fun ob h1 h2 _=>?_;rw[ec] at h1;cases Option.some.inj h1;exact h2 hc)).trans ec
 apart:=fun b hb=>by
  by_cases q:b=a
  ·subst q;exact R.apart b (by rw[ha];simp)
  ·rw[an q] at hb;exact R.apart b hb
theorem Step.change {own:Addr->Prop} {σ:ae} {h h':Heap} {a:Addr} {o o':AObj} (ha:σ a=some o) (k:Heap.SameBut a h h'):Step own σ (am σ a o') h h':=
 .of (fun b o₂ e n _=>(k.2 b (by rintro rfl;rw[ha] at n;cases n)).trans e) (Nat.le_of_eq k.1.symm)
   fun b n m=>by
  by_cases q:b=a
  ·subst q;rw[ha] at n;cases n
  ·rw[an q] at m;exact absurd n m
theorem ai {h:Heap} {a:Addr} (q:h.objs.size<=a):h.get? a=none:=by
 cases e:h.get? a with
 |none=>rfl
 |some o=>exact absurd (Heap.lt_size e) (Nat.not_lt.mpr q)
theorem ew {M:Model} {Γ:Ctx} {p:Pos} {t:Sem Fin} {fs:List Frame} {s s':Shared} {e:End} (h:Runs M Γ p t fs s e s'):s.heap.objs.size<=s'.heap.objs.size:=by
 induction h<;>(try simp only[Shared.setGen,Heap.size_push,Heap.size_after_update] at *)<;>omega
theorem kq {M:Model} {Γ:Ctx} {p:Pos} {g:Nat} {r:Resume} {s s':Shared} {res:GenResult} (h:Wakes M Γ p g r s res s'):s.heap.objs.size<=s'.heap.objs.size:=by
 unfold Wakes at h
 split at h
 ·exact h.elim
 ·split at h
  ·obtain ⟨e₁,s₁,hr,_,_,rfl⟩:=h;exact (ew hr:(s.setGen g .running).heap.objs.size<=s₁.heap.objs.size)
  ·rw[h.2];exact Nat.le_refl _
  ·rw[h.2];exact Nat.le_refl _
 ·obtain ⟨e₁,s₁,hr,_,_,rfl⟩:=h;exact (ew hr:(s.setGen g .running).heap.objs.size<=s₁.heap.objs.size)
 ·rw[h.2];exact Nat.le_refl _
 ·rw[h.2];exact Nat.le_refl _
theorem qT {α:Type} (M:Model) (Γ:Ctx) (n:Nat) (t:Sem α):∀(Q:α->Pos->Shared->Prop) (E:Value->Pos->Shared->Prop) (p:Pos) (s:Shared),n<=s.heap.objs.size->Sem.wp M Γ t Q E p s->
  Sem.wp M Γ t (fun a p' s'=>n<=s'.heap.objs.size/\Q a p' s') (fun e p' s'=>n<=s'.heap.objs.size/\E e p' s') p s:=by
 induction t with
 |pure a | raise a=>intro Q E p s hn h;exact⟨hn,h⟩
 |unsupported | finish | register | yield | fork | await=>intro Q E p s _ h;exact h
 |rule _ k ih | «at» _ k ih | point _ k ih | ask k ih | handled _ k ih | stack k ih | thread k ih | loadIfAlive _ k ih | fresh k ih | os _ _ k ih | newGen _ k ih=>intro Q E p s hn h;exact ih _ Q E _ _ hn h
 |load a _ k ih=>intro Q E p s hn h;refine x1_2 h fun o ho h=>?_;exact⟨o,ho,ih o Q E p s hn h⟩
 |update a _ f k ih=>intro Q E p s hn h;exact⟨h.1,ih () Q E p _ (by simpa using hn) h.2⟩
 |alloc o k ih=>intro Q E p s hn h;exact ih _ Q E p _ (by simp;omega) h
 |choose src m k ih=>intro Q E p s hn h;exact⟨h.1,ih _ Q E p _ hn h.2⟩
 |call c hd _ _ k ih=>intro Q E p s hn h;refine x2_2 h fun r s' hr h=>?_;exact⟨r,s',hr,ih r Q E p s' (Nat.le_trans hn (ew hr)) h⟩
 |genState g k ih=>intro Q E p s hn h;refine x1_2 h fun st hs h=>?_;exact⟨st,hs,ih _ Q E p s hn h⟩
 |resume g r _ k ih=>intro Q E p s hn h;refine x2_2 h fun res s' hw h=>?_;exact⟨res,s',hw,ih res Q E p s' (Nat.le_trans hn (kq hw)) h⟩
theorem av {α:Type} {M:Model} {A:Around} {s:Shared} {t:Sem α} {Q:α->Shared->Prop} {E:Value->Shared->Prop}
  (h:wpAny M A t (fun a s'=>s.heap.objs.size<=s'.heap.objs.size->Q a s') E s):wpAny M A t Q E s:=
 fun Γ p hΓ=>Sem.wp_mono M Γ t (fun _ _ _ x=>x.2 x.1) (fun _ _ _ x=>x.2) p s (qT M Γ _ t _ _ p s (Nat.le_refl _) (h Γ p hΓ))
noncomputable def AQ (σ:ae) (a:Addr):ae:=fun b=>if b=a then none else σ b
noncomputable def dZ (env:Env) (b:Addr):Prop:=b=env.locals\/∃n,env.cells.lookup n=some b
structure FrameRel (C:Cx) (env:Env) (m:aq) (σ:ae) (h:Heap):Prop where
 ns:∃mm,h.Ns env.locals mm/\∀x v,m x=some v->env.kindOf (Str.ofString x)=some .local->∃w,mm (Str.ofString x)=some w/\VRel C.aS h v w
 cel:∀x v,m x=some v->env.kindOf (Str.ofString x)=some .local\/
  ((env.kindOf (Str.ofString x)=some .cell\/env.kindOf (Str.ofString x)=some .free)/\∃c w,env.cells.lookup (Str.ofString x)=some c/\h.IsCell c (some w)/\VRel C.aS h v w)
 cells:∀n c,env.cells.lookup n=some c->∃v,h.IsCell c v
 sepL:σ env.locals=none
 baseL:C.hB.get? env.locals=none
 baseC:∀n c,env.cells.lookup n=some c->C.hB.get? c=none
 dist:env.cells.Pairwise fun x y=>x.2≠y.2
 has:∀n,env.kindOf n=some .cell\/env.kindOf n=some .free->∃c,env.cells.lookup n=some c
theorem FrameRel.step {C:Cx} {env:Env} {m:aq} {σ σ':ae} {s:Shared} {h':Heap} (F:FrameRel C env m σ s.heap) (R:RelG C σ s) (S:Step no σ σ' s.heap h'):FrameRel C env m σ' h':=by
 have kt:=S.tupsN R
 have kc:∀c v,s.heap.IsCell c v->h'.IsCell c v:=fun c v ⟨o,ho,hd⟩=>⟨o,S.keep c o ho (by
  cases z:σ c with
  |none=>rfl
  |some o'=>refine x1_3 ((R.view c o' z).shape) fun ob h1 _ h3=>?_;rw[ho] at h1;cases Option.some.inj h1;exact absurd hd (h3 v)) (fun z=>z) (fun es ep z=>by rw[hd] at z;cases z),hd⟩
 refine x1_2 F.ns fun mm hn hv=>?_
 have hl:∃o,s.heap.get? env.locals=some o:=let ⟨o,_,_,ho,_⟩:=hn;⟨o,ho⟩
 refine⟨⟨mm,Like.ns hn fun o e=>S.keepL _ o e F.sepL (fun z=>z),fun x v e k=>?_⟩,fun x v e=>?_,fun n c e=>?_,?_,F.baseL,F.baseC,F.dist,F.has⟩
 ·refine x1_2 (hv x v e k) fun w h1 h2=>?_;exact⟨w,h1,h2.keep kt⟩
 ·rcases F.cel x v e with q | ⟨q,c,w,h1,h2,h3⟩
  ·exact .inl q
  ·exact .inr ⟨q,c,w,h1,kc _ _ h2,h3.keep kt⟩
 ·refine x1_1 (F.cells n c e) fun v hv=>?_;exact⟨v,kc _ _ hv⟩
 ·cases z:σ' env.locals with
  |none=>rfl
  |some o=>refine x1_1 hl fun ol hol=>?_;clear hl;have:=S.new env.locals F.sepL (by rw[z];simp);exact absurd (Heap.lt_size hol) (Nat.not_lt.mpr this)
structure AOk (C:Cx) (A:Around) (k:Nat):Prop where
 handled:A.handled=C.held.map Value.ref
 depth:A.depth+3*k+3 < recursionLimit
 units:A.units+10*k+20 < cLine
theorem AOk.le {C:Cx} {A:Around} {k j:Nat} (x:AOk C A k) (h:j<=k):AOk C A j:=⟨x.handled,Nat.lt_of_le_of_lt (Nat.add_le_add_right (Nat.add_le_add_left (Nat.mul_le_mul_left 3 h) _) _) x.depth,Nat.lt_of_le_of_lt (Nat.add_le_add_right (Nat.add_le_add_left (Nat.mul_le_mul_left 10 h) _) _) x.units⟩
theorem AOk.none {C:Cx} {A:Around} {k:Nat} (x:AOk C A k) (hp:C.held=none):A.handled=none:=by rw[x.handled,hp];rfl
structure EnvOk (env:Env) (sc:Scope):Prop where
 scope:env.scope=sc
 kind:sc.kind=.function
 globals:env.globals=mainGlobals
 builtins:env.builtins=builtinsNs
theorem EnvOk.k {env:Env} {sc:Scope} (e:EnvOk env sc):env.scope.kind=.function:=by rw[e.scope];exact e.kind
theorem EnvOk.of {env:Env} {sc:Scope} (e:EnvOk env sc) {x:Str} {n:Option NameKind} (h:sc.names.lookup x=n):env.kindOf x=n:=by unfold Env.kindOf;rw[e.scope];exact h
abbrev ET:=aq->ae->(V->ae->Prop)->Prop
abbrev BT:=aq->ae->(Bool->ae->Prop)->Prop
abbrev LT:=aq->ae->(List V->ae->Prop)->Prop
structure HE (C:Cx) (sc:Scope) (k:Nat) (e:Expr) (T:ET):Prop where
 run:∀(env:Env) (A:Around) (s:Shared) (m:aq) (σ:ae) (Q:V->ae->Prop) (P:Value->Shared->Prop) (E:Value->Shared->Prop),
  EnvOk env sc->AOk C A k->RelG C σ s->FrameRel C env m σ s.heap->T m σ Q->
  (∀v w σ' s',VRel C.aS s'.heap v w->RelG C σ' s'->Step no σ σ' s.heap s'.heap->Q v σ'->P w s')->
  wpAny (model C.prog C.w) A (eval e env) P E s
structure HB (C:Cx) (sc:Scope) (k:Nat) (e:Expr) (T:BT):Prop where
 run:∀(env:Env) (A:Around) (s:Shared) (m:aq) (σ:ae) (Q:Bool->ae->Prop) (P:Bool->Shared->Prop) (E:Value->Shared->Prop),
  EnvOk env sc->AOk C A k->RelG C σ s->FrameRel C env m σ s.heap->T m σ Q->
  (∀b σ' s',RelG C σ' s'->Step no σ σ' s.heap s'.heap->Q b σ'->P b s')->
  wpAny (model C.prog C.w) A (isTrue e env (eval e env)) P E s
structure HL (C:Cx) (sc:Scope) (k:Nat) (es:List Expr) (T:LT):Prop where
 run:∀(env:Env) (A:Around) (s:Shared) (m:aq) (σ:ae) (pos:Pos) (Q:List V->ae->Prop) (P:List Value->Shared->Prop) (E:Value->Shared->Prop),
  EnvOk env sc->AOk C A k->RelG C σ s->FrameRel C env m σ s.heap->T m σ Q->
  (∀vs ws σ' s',VRels C.aS s'.heap vs ws->RelG C σ' s'->Step no σ σ' s.heap s'.heap->Q vs σ'->P ws s')->
  wpAny (model C.prog C.w) A (spliced (backTo pos (starEach es env))) P E s
section
variable {C:Cx} {sc:Scope} {k:Nat}
@[reducible] noncomputable def atK {α:Type} (o:Option α) (F:α->Prop):Prop:=match o with | some v=>F v | none=>False
theorem atK.elim {α:Type} {o:Option α} {F:α->Prop} (h:atK o F):∃v,o=some v/\F v:=by
 cases o with
 |none=>exact False.elim h
 |some v=>exact⟨v,rfl,h⟩
theorem atK.of {α:Type} {o:Option α} {F:α->Prop} {v:α} (h:o=some v) (q:F v):atK o F:=by rw[h];exact q
@[reducible] noncomputable def isB (v:V) (F:Bool->Prop):Prop:=match v with | .bool b=>F b | _=>False
theorem isB.elim {v:V} {F:Bool->Prop} (h:isB v F):∃b,v=.bool b/\F b:=by
 cases v<;>first | exact False.elim h | exact⟨_,rfl,h⟩
@[reducible] noncomputable def on1 (vs:List V) (F:V->Prop):Prop:=match vs with | [a]=>F a | _=>False
theorem on1.elim {vs:List V} {F:V->Prop} (h:on1 vs F):∃a,vs=[a]/\F a:=by
 rcases vs with _ | ⟨a,_ | ⟨b,r⟩⟩
 ·exact False.elim h
 ·exact⟨a,rfl,h⟩
 ·exact False.elim h
@[reducible] noncomputable def on2 (vs:List V) (F:V->V->Prop):Prop:=match vs with | a::r=>on1 r (F a) | _=>False
theorem on2.elim {vs:List V} {F:V->V->Prop} (h:on2 vs F):∃a b,vs=[a,b]/\F a b:=by
 rcases vs with _ | ⟨a,r⟩
 ·exact False.elim h
 ·obtain ⟨b,rfl,h⟩:=on1.elim h;exact⟨a,b,rfl,h⟩
@[reducible] noncomputable def isS (v:V) (F:Str->Prop):Prop:=match v with | .str x=>F x | _=>False
theorem isS.elim {v:V} {F:Str->Prop} (h:isS v F):∃x,v=.str x/\F x:=by
 cases v<;>first | exact False.elim h | exact⟨_,rfl,h⟩
@[reducible] noncomputable def isI (v:V) (F:Int->Prop):Prop:=match v with | .int x=>F x | _=>False
theorem isI.elim {v:V} {F:Int->Prop} (h:isI v F):∃x,v=.int x/\F x:=by
 cases v<;>first | exact False.elim h | exact⟨_,rfl,h⟩
@[reducible] noncomputable def isR (v:V) (F:Addr->Prop):Prop:=match v with | .ref x=>F x | _=>False
theorem isR.elim {v:V} {F:Addr->Prop} (h:isR v F):∃x,v=.ref x/\F x:=by
 cases v<;>first | exact False.elim h | exact⟨_,rfl,h⟩
noncomputable def isT (v:V) (F:String->Prop):Prop:=match v with | .ty x=>F x | _=>False
theorem isT.elim {v:V} {F:String->Prop} (h:isT v F):∃x,v=.ty x/\F x:=by
 cases v<;>first | exact False.elim h | exact⟨_,rfl,h⟩
noncomputable def onR (vs:List V) (F:Addr->Prop):Prop:=on1 vs fun a=>isR a fun x=>F x
theorem onR.elim {vs:List V} {F:Addr->Prop} (h:onR vs F):∃x,vs=[.ref x]/\F x:=by
 obtain ⟨a,rfl,h⟩:=on1.elim h
 obtain ⟨x,rfl,h⟩:=isR.elim h
 exact⟨x,rfl,h⟩
noncomputable def onI (vs:List V) (F:Int->Prop):Prop:=on1 vs fun a=>isI a fun x=>F x
theorem onI.elim {vs:List V} {F:Int->Prop} (h:onI vs F):∃x,vs=[.int x]/\F x:=by
 obtain ⟨a,rfl,h⟩:=on1.elim h
 obtain ⟨x,rfl,h⟩:=isI.elim h
 exact⟨x,rfl,h⟩
noncomputable def onB (vs:List V) (F:Bool->Prop):Prop:=on1 vs fun a=>isB a fun x=>F x
theorem onB.elim {vs:List V} {F:Bool->Prop} (h:onB vs F):∃x,vs=[.bool x]/\F x:=by
 obtain ⟨a,rfl,h⟩:=on1.elim h
 obtain ⟨x,rfl,h⟩:=isB.elim h
 exact⟨x,rfl,h⟩
noncomputable def onRS (vs:List V) (F:Addr->Str->Prop):Prop:=on2 vs fun a b=>isR a fun x=>isS b fun y=>F x y
theorem onRS.elim {vs:List V} {F:Addr->Str->Prop} (h:onRS vs F):∃x y,vs=[.ref x,.str y]/\F x y:=by
 obtain ⟨a,b,rfl,h⟩:=on2.elim h
 obtain ⟨x,rfl,h⟩:=isR.elim h
 obtain ⟨y,rfl,h⟩:=isS.elim h
 exact⟨x,y,rfl,h⟩
noncomputable def onSS (vs:List V) (F:Str->Str->Prop):Prop:=on2 vs fun a b=>isS a fun x=>isS b fun y=>F x y
theorem onSS.elim {vs:List V} {F:Str->Str->Prop} (h:onSS vs F):∃x y,vs=[.str x,.str y]/\F x y:=by
 obtain ⟨a,b,rfl,h⟩:=on2.elim h
 obtain ⟨x,rfl,h⟩:=isS.elim h
 obtain ⟨y,rfl,h⟩:=isS.elim h
 exact⟨x,y,rfl,h⟩
noncomputable def onII (vs:List V) (F:Int->Int->Prop):Prop:=on2 vs fun a b=>isI a fun x=>isI b fun y=>F x y
theorem onII.elim {vs:List V} {F:Int->Int->Prop} (h:onII vs F):∃x y,vs=[.int x,.int y]/\F x y:=by
 obtain ⟨a,b,rfl,h⟩:=on2.elim h
 obtain ⟨x,rfl,h⟩:=isI.elim h
 obtain ⟨y,rfl,h⟩:=isI.elim h
 exact⟨x,y,rfl,h⟩
noncomputable def onSR (vs:List V) (F:Str->Addr->Prop):Prop:=on2 vs fun a b=>isS a fun x=>isR b fun y=>F x y
theorem onSR.elim {vs:List V} {F:Str->Addr->Prop} (h:onSR vs F):∃x y,vs=[.str x,.ref y]/\F x y:=by
 obtain ⟨a,b,rfl,h⟩:=on2.elim h
 obtain ⟨x,rfl,h⟩:=isS.elim h
 obtain ⟨y,rfl,h⟩:=isR.elim h
 exact⟨x,y,rfl,h⟩
noncomputable def onRV (vs:List V) (F:Addr->V->Prop):Prop:=on2 vs fun a b=>isR a fun x=>F x b
theorem onRV.elim {vs:List V} {F:Addr->V->Prop} (h:onRV vs F):∃x y,vs=[.ref x,y]/\F x y:=by
 obtain ⟨a,b,rfl,h⟩:=on2.elim h
 obtain ⟨x,rfl,h⟩:=isR.elim h
 exact⟨x,b,rfl,h⟩
noncomputable def onVT (vs:List V) (F:V->String->Prop):Prop:=on2 vs fun a b=>isT b fun y=>F a y
theorem onVT.elim {vs:List V} {F:V->String->Prop} (h:onVT vs F):∃x y,vs=[x,.ty y]/\F x y:=by
 obtain ⟨a,b,rfl,h⟩:=on2.elim h
 obtain ⟨y,rfl,h⟩:=isT.elim h
 exact⟨a,y,rfl,h⟩
@[reducible] noncomputable def aO (x:String):ET:=fun m σ Q=>atK (m x) fun v=>Q v σ
theorem HE.name {x:String} {pos:Pos} (h:sc.names.lookup (Str.ofString x)=some .local) (hd:(Str.ofString x == ("__debug__":Str))=false):HE C sc k (.Name (Str.ofString x) pos) (aO x):=by
 refine⟨?_⟩;intro env A s m σ Q P E en ao R F q₀ hP
 refine x1_2 q₀.elim fun v hv q=>?_
 refine x1_2 F.ns fun mm hn hm=>?_
 refine x1_2 (hm x v hv (en.of h)) fun w hw hr=>?_
 exact wpAny_Name (wpAny_loadName_local en.k (en.of h) hn hw (hP v w σ s hr R Step.refl q)) hd
theorem HE.cell {x:String} {pos:Pos} (h:sc.names.lookup (Str.ofString x)=some .cell) (hd:(Str.ofString x == ("__debug__":Str))=false):HE C sc k (.Name (Str.ofString x) pos) (aO x):=by
 refine⟨?_⟩;intro env A s m σ Q P E en ao R F q₀ hP
 refine x1_2 q₀.elim fun v hv q=>?_
 have kk:=en.of h
 rcases F.cel x v hv with z | ⟨_,c,w,h1,h2,h3⟩
 ·rw[kk] at z;cases Option.some.inj z
 ·exact wpAny_Name (wpAny_loadName_cell en.k kk h1 h2 (hP v w σ s h3 R Step.refl q)) hd
@[reducible] noncomputable def br (v:V):ET:=fun _ σ Q=>Q v σ
theorem i0 (O:C.Ok) {x:String} {pos:Pos} {v:V} {w:Value} (h:sc.names.lookup (Str.ofString x)=some .globalImplicit) (hg:C.mg (Str.ofString x)=some w) (hv:∀h,VRel C.aS h v w) (hd:(Str.ofString x == ("__debug__":Str))=false) :
  HE C sc k (.Name (Str.ofString x) pos) (br v):=by
 refine⟨?_⟩;intro env A s m σ Q P E en ao R F q hP
 exact Calls.Name_function_global en.k (en.of h) (Calls.loadGlobal_global (mg:=C.mg) (by rw[en.globals];exact O.g.keeps R.base) hg (hP v w σ s (hv _) R Step.refl q)) hd
theorem HE.int {i:Int} {n:Nat} {pos:Pos}:HE C sc k (.Constant (.int i) n pos) (br (.int i)):=by
 refine⟨?_⟩;intro env A s m σ Q P E en ao R F q hP
 exact wpAny_Constant_int (hP _ _ σ _ (.int i _) (R.tok _) (Step.refl) q)
theorem HE.str {x:Str} {n:Nat} {pos:Pos}:HE C sc k (.Constant (.str x) n pos) (br (.str x)):=by
 refine⟨?_⟩;intro env A s m σ Q P E en ao R F q hP
 exact Calls.Constant_str (hP _ _ σ _ (.str x _) (R.tok _) (Step.refl) q)
theorem HE.bool {b:Bool} {n:Nat} {pos:Pos}:HE C sc k (.Constant (.bool b) n pos) (br (.bool b)):=by
 refine⟨?_⟩;intro env A s m σ Q P E en ao R F q hP
 exact wpAny_Constant_bool (hP _ _ σ _ (.bool b) R (Step.refl) q)
theorem HE.none {n:Nat} {pos:Pos}:HE C sc k (.Constant .none n pos) (br .none):=by
 refine⟨?_⟩;intro env A s m σ Q P E en ao R F q hP
 exact wpAny_Constant_none (hP _ _ σ _ .none R (Step.refl) q)
theorem iZ (O:C.Ok) {x n:String} {pos:Pos} (h:sc.names.lookup (Str.ofString x)=some .globalImplicit) (hg:C.mg (Str.ofString x)=Option.none) (hb:C.mb (Str.ofString x)=some (.type n)) (hd:(Str.ofString x == ("__debug__":Str))=false) :
  HE C sc k (.Name (Str.ofString x) pos) (br (.ty n)):=by
 refine⟨?_⟩;intro env A s m σ Q P E en ao R F q hP
 exact Calls.Name_function_global en.k (en.of h) (Calls.loadGlobal_builtin (mg:=C.mg) (mb:=C.mb) (by rw[en.globals];exact O.g.keeps R.base) hg (by rw[en.builtins];exact O.b.keeps R.base) hb (hP _ _ σ s (.ty n) R Step.refl q)) hd
@[reducible] noncomputable def iF:LT:=fun _ σ Q=>Q [] σ
@[reducible] noncomputable def A5 (v:V) (Q:List V->ae->Prop):List V->ae->Prop:=fun vs σ=>Q (v::vs) σ
@[reducible] noncomputable def A6 (L:LT) (m:aq) (Q:List V->ae->Prop):V->ae->Prop:=fun v σ=>L m σ (A5 v Q)
@[reducible] noncomputable def bV (T:ET) (L:LT):LT:=fun m σ Q=>T m σ (A6 L m Q)
theorem HL.nil:HL C sc k [] iF:=by
 refine⟨?_⟩;intro env A s m σ pos Q P E en ao R F q hP
 exact Calls.spliced_nil (hP [] [] σ s .nil R Step.refl q)
noncomputable def cg (e:Expr):Bool:=!Nat.beq e.ctorIdx 22
theorem aM {e:Expr} {rest:List Expr} {env:Env} (h:cg e=true):starEach (e::rest) env=(false,eval e env)::starEach rest env:=by
 cases e<;>first | rfl | cases h
theorem HL.cons {e:Expr} {es:List Expr} {T:ET} {L:LT} (he:HE C sc k e T) (hl:HL C sc k es L) (hs:cg e=true):HL C sc k (e::es) (bV T L):=by
 refine⟨?_⟩;intro env A s m σ pos Q P E en ao R F q hP
 rw[aM hs]
 show wpAny _ A (spliced ((false,eval e env)::backTo pos (starEach es env))) P E s
 refine Calls.spliced_cons (he.run env A s m σ _ _ E en ao R F q fun v w σ₁ s₁ hv R₁ S₁ q₁=>?_)
 exact hl.run env A s₁ m σ₁ pos _ _ E en ao R₁ (F.step R S₁) q₁ fun vs ws σ₂ s₂ hvs R₂ S₂ q₂=>hP _ _ σ₂ s₂ (.cons (hv.keep (S₂.tupsN R₁)) hvs) R₂ (S₁.trans S₂) q₂
@[reducible] noncomputable def zh (Q:V->ae->Prop):List V->ae->Prop:=fun vs σ=>vs.length<=1000/\Q (.tup vs) σ
@[reducible] noncomputable def uq (L:LT):ET:=fun m σ Q=>L m σ (zh Q)
theorem ay {h:Heap} {o:Obj}:∀b o',h.get? b=some o'->(h.push o).get? b=some o':=fun _ _ e=>Heap.get?_push_of_some _ e
theorem HE.tup {es:List Expr} {L:LT} {n:Nat} {pos:Pos} (hl:HL C sc k es L):HE C sc k (.Tuple es n pos) (uq L):=by
 refine⟨?_⟩;intro env A s m σ Q P E en ao R F q hP
 show wpAny _ A (do standAt pos;newTuple (<-spliced (backTo pos (starEach es env)))) P E s
 refine wpAny_bind (wpAny_standAt (wpAny_bind (hl.run env A s m σ pos _ _ E en ao R F q fun vs ws σ₁ s₁ hv R₁ S₁ q₁=>?_)))
 have hlen:=hv.length
 refine wpAny_newTuple (hP _ _ σ₁ _ (.tup (ws:=ws) ⟨_,Heap.get?_push_size _ rfl,rfl,_,rfl⟩ (hv.keep fun _ _ e _=>ay _ _ e)) (R₁.grow ay) (S₁.trans .push) q₁.2) (by rw[<-hlen,sizeLine_eq];exact Nat.le_trans q₁.1 (by decide))
noncomputable def bq (xs:List V) (σ:ae) (Q:V->ae->Prop):Prop:=∀a,σ a=none->Q (.ref a) (am σ a (.list xs))
@[reducible] noncomputable def wL (Q:V->ae->Prop):List V->ae->Prop:=fun vs σ=>vs.length<=1000/\bq vs σ Q
@[reducible] noncomputable def qo (L:LT):ET:=fun m σ Q=>L m σ (wL Q)
theorem HE.list {es:List Expr} {L:LT} {pos:Pos} (hl:HL C sc k es L):HE C sc k (.List es pos) (qo L):=by
 refine⟨?_⟩;intro env A s m σ Q P E en ao R F q hP
 show wpAny _ A (do standAt pos;newList (<-spliced (backTo pos (starEach es env)))) P E s
 refine wpAny_bind (wpAny_standAt (wpAny_bind (hl.run env A s m σ pos _ _ E en ao R F q fun vs ws σ₁ s₁ hv R₁ S₁ q₁=>?_)))
 have hlen:=hv.length
 have hn:=aH s₁.heap
 refine wpAny_newList (hP _ _ (am σ₁ s₁.heap.objs.size (.list vs)) _ (.ref _) (R₁.add (tk:=s₁.toks) ay hn ⟨Nat.le_trans q₁.1 (by decide),ws,⟨_,Heap.get?_push_size _ rfl⟩,hv.keep fun _ _ e _=>ay _ _ e⟩) (S₁.trans .addPush) (q₁.2 _ (R₁.freshNone hn))) (by rw[<-hlen,sizeLine_eq];exact Nat.le_trans q₁.1 (by decide))
end
abbrev O2:=V->V->ae->(V->ae->Prop)->Prop
abbrev O1:=V->ae->(V->ae->Prop)->Prop
abbrev r8 (C:Cx) (σ:ae) (s:Shared) (Q:V->ae->Prop) (P:Value->Shared->Prop):Prop:=
 ∀v w σ' s',VRel C.aS s'.heap v w->RelG C σ' s'->Step no σ σ' s.heap s'.heap->Q v σ'->P w s'
noncomputable def Op2 (C:Cx) (k:Nat) (t:Value->Value->Sem Value) (op:O2):Prop:=
 ∀(A:Around) (s:Shared) (σ:ae) (a b:V) (wa wb:Value) (Q:V->ae->Prop) (P E:Value->Shared->Prop),AOk C A k->RelG C σ s->VRel C.aS s.heap a wa->VRel C.aS s.heap b wb->op a b σ Q->r8 C σ s Q P->
  wpAny (model C.prog C.w) A (t wa wb) P E s
noncomputable def AS (C:Cx) (k:Nat) (t:Value->Sem Value) (op:O1):Prop:=
 ∀(A:Around) (s:Shared) (σ:ae) (a:V) (wa:Value) (Q:V->ae->Prop) (P E:Value->Shared->Prop),AOk C A k->RelG C σ s->VRel C.aS s.heap a wa->op a σ Q->r8 C σ s Q P->
  wpAny (model C.prog C.w) A (t wa) P E s
@[reducible] noncomputable def xM (op:O2) (a:V) (Q:V->ae->Prop):V->ae->Prop:=fun b σ=>op a b σ Q
@[reducible] noncomputable def xN (op:O2) (U:ET) (m:aq) (Q:V->ae->Prop):V->ae->Prop:=fun a σ=>U m σ (xM op a Q)
@[reducible] noncomputable def bQ (op:O2) (T U:ET):ET:=fun m σ Q=>T m σ (xN op U m Q)
@[reducible] noncomputable def AP (op:O1) (T:ET):ET:=fun m σ Q=>T m σ fun a σ₁=>op a σ₁ Q
section
variable {C:Cx} {sc:Scope} {k:Nat}
theorem two {op:O2} {t:Value->Value->Sem Value} {T U:ET} {e f:Expr} (hop:Op2 C k t op) (he:HE C sc k e T) (hf:HE C sc k f U) {env:Env} {A:Around} {s:Shared} {m:aq} {σ:ae} {Q:V->ae->Prop} {P E:Value->Shared->Prop}
  (en:EnvOk env sc) (ao:AOk C A k) (R:RelG C σ s) (F:FrameRel C env m σ s.heap) (q:bQ op T U m σ Q) (hP:r8 C σ s Q P) :
  wpAny (model C.prog C.w) A (eval e env) (fun a s₁=>wpAny (model C.prog C.w) A (eval f env) (fun b s₂=>wpAny (model C.prog C.w) A (t a b) P E s₂) E s₁) E s:=
 he.run env A s m σ _ _ E en ao R F q fun a wa σ₁ s₁ va R₁ S₁ q₁=>
  hf.run env A s₁ m σ₁ _ _ E en ao R₁ (F.step R S₁) q₁ fun b wb σ₂ s₂ vb R₂ S₂ q₂=>
   hop A s₂ σ₂ a b wa wb Q P E ao R₂ (va.keep (S₂.tupsN R₁)) vb q₂ fun v w σ' s' hv R' S' q'=>hP v w σ' s' hv R' ((S₁.trans S₂).trans S') q'
theorem Am {op:O2} {o:Operator} {l r:Expr} {pos:Pos} {T U:ET} (hop:Op2 C k (binaryOp o) op) (hl:HE C sc k l T) (hr:HE C sc k r U):HE C sc k (.BinOp l o r pos) (bQ op T U):=by
 refine⟨?_⟩;intro env A s m σ Q P E en ao R F q hP
 exact wpAny_BinOp (two hop hl hr en ao R F q hP)
theorem Ak {op:O2} {o:CmpOp} {l r:Expr} {pos:Pos} {T U:ET} (hop:Op2 C k (compareOp o) op) (hl:HE C sc k l T) (hr:HE C sc k r U) (hm:behindInMarks o r=false):HE C sc k (.Compare l [o] [r] pos) (bQ op T U):=by
 refine⟨?_⟩;intro env A s m σ Q P E en ao R F q hP
 exact wpAny_Compare1 (two hop hl hr en ao R F q hP) hm
theorem AT {op:O1} {o:UnaryOp} {e:Expr} {pos:Pos} {T:ET} (hop:AS C k (unaryOp o) op) (he:HE C sc k e T):HE C sc k (.UnaryOp o e pos) (AP op T):=by
 refine⟨?_⟩;intro env A s m σ Q P E en ao R F q hP
 exact wpAny_UnaryOp (he.run env A s m σ _ _ E en ao R F q fun a wa σ₁ s₁ va R₁ S₁ q₁=>
  hop A s₁ σ₁ a wa Q P E ao R₁ va q₁ fun v w σ' s' hv R' S' q'=>hP v w σ' s' hv R' (S₁.trans S') q')
@[reducible] noncomputable def xH (Q:Bool->ae->Prop):V->ae->Prop:=fun v σ=>isB v fun b=>Q b σ
@[reducible] noncomputable def lV (T:ET):BT:=fun m σ Q=>T m σ (xH Q)
theorem Ap {op:O2} {o:CmpOp} {l r:Expr} {pos:Pos} {T U:ET} (hop:Op2 C k (compareOp o) op) (hl:HE C sc k l T) (hr:HE C sc k r U) (hm:behindInMarks o r=false):HB C sc k (.Compare l [o] [r] pos) (lV (bQ op T U)):=by
 refine⟨?_⟩;intro env A s m σ Q P E en ao R F q hP
 refine wpAny_isTrue_Compare1 (two (P:=fun c s₃=>wpAny _ A (truthy c) P E s₃) hop hl hr en ao R F q fun v w σ' s' hv R' S' q'=>?_) hm
 replace q':=q'.elim
 obtain ⟨b,rfl,q'⟩:=q'
 obtain rfl:=hv.invBool
 exact wpAny_truthy_bool (hP b σ' s' R' S' q')
@[reducible] noncomputable def lU (o1 o2:O2) (T U W:ET):BT:=fun m σ Q=>T m σ fun a σ₁=>U m σ₁ fun b σ₂=>o1 a b σ₂ fun v σ₃=>isB v fun x=>if x then W m σ₃ fun c σ₄=>o2 b c σ₄ fun u σ₅=>isB u fun y=>Q y σ₅ else Q false σ₃
theorem mT {p1 p2:O2} {o1 o2:CmpOp} {l r z:Expr} {pos:Pos} {T U W:ET} (h1:Op2 C k (compareOp o1) p1) (h2:Op2 C k (compareOp o2) p2) (hl:HE C sc k l T) (hr:HE C sc k r U) (hz:HE C sc k z W) (hm:behindInMarks o2 z=false) :
  HB C sc k (.Compare l [o1,o2] [r,z] pos) (lU p1 p2 T U W):=by
 refine⟨?_⟩;intro env A s m σ Q P E en ao R F q hP
 show wpAny _ A (do testChain pos (<-eval l env) [o1,o2] [eval r env,markedBehindIn o2 z (eval z env)]) P E s
 rw[markedBehindIn_of_false hm]
 refine wpAny_bind (hl.run env A s m σ _ _ E en ao R F q fun a wa σ₁ s₁ va R₁ S₁ q₁=>?_)
 show wpAny _ A (do
  let rv <-holding [wa] (eval r env)
  standAt pos
  let c <-holding [wa,rv] (compareOp o1 wa rv)
  release [wa,rv] [c]
  if <-holding [c,rv] (truthy c) then testChain pos rv [o2] [eval z env] else pure false) P E s₁
 refine wpAny_bind (wpAny_holding (hr.run env A s₁ m σ₁ _ _ E en ao R₁ (F.step R S₁) q₁ fun b wb σ₂ s₂ vb R₂ S₂ q₂=>?_))
 refine wpAny_bind (wpAny_standAt (wpAny_bind (wpAny_holding ?_)))
 refine h1 A s₂ σ₂ a b wa wb _ _ E ao R₂ (va.keep (S₂.tupsN R₁)) vb q₂ fun v w σ₃ s₃ hv R₃ S₃ q₃=>?_
 replace q₃:=q₃.elim
 obtain ⟨x,rfl,q₃⟩:=q₃
 obtain rfl:=hv.invBool
 refine wpAny_bind ?_
 intro Γ p hΓ
 rw[Sem.wp_release]
 refine wpAny_bind (wpAny_holding (wpAny_truthy_bool ?_))
 have S₁₃:=(S₁.trans S₂).trans S₃
 cases x with
 |false=>exact wpAny_pure (hP false σ₃ s₃ R₃ S₁₃ (by simpa using q₃))
 |true=>
  simp only[if_true] at q₃ ⊢
  show wpAny _ A (do
   let rv <-holding [wb] (eval z env)
   standAt pos
   let c <-operate [wb,rv] (compareOp o2 wb rv)
   holding [c] (truthy c)) P E s₃
  refine wpAny_bind (wpAny_holding (hz.run env A s₃ m σ₃ _ _ E en ao R₃ (F.step R S₁₃) q₃ fun c wc σ₄ s₄ vc R₄ S₄ q₄=>?_))
  refine wpAny_bind (wpAny_standAt (wpAny_bind (wpAny_operating ?_)))
  refine h2 A s₄ σ₄ b c wb wc _ _ E ao R₄ ((vb.keep (S₃.tupsN R₂)).keep (S₄.tupsN R₃)) vc q₄ fun v w σ₅ s₅ hv R₅ S₅ q₅=>?_
  replace q₅:=q₅.elim
  obtain ⟨y,rfl,q₅⟩:=q₅
  obtain rfl:=hv.invBool
  exact wpAny_holding (wpAny_truthy_bool (hP y σ₅ s₅ R₅ ((S₁₃.trans S₄).trans S₅) q₅))
theorem An {e:Expr} {T:ET} (he:HE C sc k e T) (hi:∀env whole,isTrue e env whole=(do let v <-whole;standAt e.pos;holding [v] (truthy v))):HB C sc k e (lV T):=by
 refine⟨?_⟩;intro env A s m σ Q P E en ao R F q hP
 refine wpAny_isTrue_value (he.run env A s m σ _ _ E en ao R F q fun v w σ' s' hv R' S' q'=>?_) (hi env _)
 replace q':=q'.elim
 obtain ⟨b,rfl,q'⟩:=q'
 obtain rfl:=hv.invBool
 exact wpAny_truthy_bool (hP b σ' s' R' S' q')
@[reducible] noncomputable def zC (Q:Bool->ae->Prop):Bool->ae->Prop:=fun b σ=>Q (!b) σ
@[reducible] noncomputable def vR (T:BT):BT:=fun m σ Q=>T m σ (zC Q)
theorem Ao {e:Expr} {pos:Pos} {T:BT} (he:HB C sc k e T):HB C sc k (.UnaryOp .Not e pos) (vR T):=by
 refine⟨?_⟩;intro env A s m σ Q P E en ao R F q hP
 exact wpAny_isTrue_Not (he.run env A s m σ _ _ E en ao R F q fun b σ' s' R' S' q'=>hP (!b) σ' s' R' S' q')
structure HBs (C:Cx) (sc:Scope) (k:Nat) (op:BoolOp) (es:List Expr) (T:BT):Prop where
 run:∀(env:Env) (A:Around) (s:Shared) (m:aq) (σ:ae) (Q:Bool->ae->Prop) (P:Bool->Shared->Prop) (E:Value->Shared->Prop),
  EnvOk env sc->AOk C A k->RelG C σ s->FrameRel C env m σ s.heap->T m σ Q->
  (∀b σ' s',RelG C σ' s'->Step no σ σ' s.heap s'.heap->Q b σ'->P b s')->
  wpAny (model C.prog C.w) A (allTrue op es env) P E s
@[reducible] noncomputable def tT:BT:=fun _ σ Q=>Q true σ
@[reducible] noncomputable def tF:BT:=fun _ σ Q=>Q false σ
@[reducible] noncomputable def Aa (U:BT) (m:aq) (Q:Bool->ae->Prop):Bool->ae->Prop:=fun b σ=>if b then U m σ Q else Q false σ
@[reducible] noncomputable def vU (T U:BT):BT:=fun m σ Q=>T m σ (Aa U m Q)
@[reducible] noncomputable def AX (U:BT) (m:aq) (Q:Bool->ae->Prop):Bool->ae->Prop:=fun b σ=>if b then Q true σ else U m σ Q
@[reducible] noncomputable def Av (T U:BT):BT:=fun m σ Q=>T m σ (AX U m Q)
theorem uT:HBs C sc k .And [] tT:=⟨fun _ _ s _ σ _ _ _ _ _ R _ q hP=>wpAny_allTrue_And_nil (hP true σ s R Step.refl q)⟩
theorem vu:HBs C sc k .Or [] tF:=⟨fun _ _ s _ σ _ _ _ _ _ R _ q hP=>wpAny_allTrue_Or_nil (hP false σ s R Step.refl q)⟩
theorem za {e:Expr} {es:List Expr} {T U:BT} (he:HB C sc k e T) (hs:HBs C sc k .And es U):HBs C sc k .And (e::es) (vU T U):=by
 refine⟨?_⟩;intro env A s m σ Q P E en ao R F q hP
 refine wpAny_allTrue_And_cons (he.run env A s m σ _ _ E en ao R F q fun b σ' s' R' S' q'=>?_)
 cases b with
 |false=>simpa using hP false σ' s' R' S' q'
 |true=>simp only[if_true] at q' ⊢;exact hs.run env A s' m σ' Q P E en ao R' (F.step R S') q' fun b σ₂ s₂ R₂ S₂ q₂=>hP b σ₂ s₂ R₂ (S'.trans S₂) q₂
theorem HBs.or {e:Expr} {es:List Expr} {T U:BT} (he:HB C sc k e T) (hs:HBs C sc k .Or es U):HBs C sc k .Or (e::es) (Av T U):=by
 refine⟨?_⟩;intro env A s m σ Q P E en ao R F q hP
 refine wpAny_allTrue_Or_cons (he.run env A s m σ _ _ E en ao R F q fun b σ' s' R' S' q'=>?_)
 cases b with
 |true=>simpa using hP true σ' s' R' S' q'
 |false=>simp only[Bool.false_eq_true,if_false] at q' ⊢;exact hs.run env A s' m σ' Q P E en ao R' (F.step R S') q' fun b σ₂ s₂ R₂ S₂ q₂=>hP b σ₂ s₂ R₂ (S'.trans S₂) q₂
theorem vx {op:BoolOp} {es:List Expr} {pos:Pos} {T:BT} (h:HBs C sc k op es T):HB C sc k (.BoolOp op es pos) T:=by
 refine⟨?_⟩;intro env A s m σ Q P E en ao R F q hP
 exact wpAny_isTrue_BoolOp (h.run env A s m σ Q P E en ao R F q hP)
structure HVs (C:Cx) (sc:Scope) (k:Nat) (op:BoolOp) (es:List Expr) (T:ET):Prop where
 run:∀(env:Env) (A:Around) (s:Shared) (m:aq) (σ:ae) (pos:Pos) (Q:V->ae->Prop) (P:Value->Shared->Prop) (E:Value->Shared->Prop),
  EnvOk env sc->AOk C A k->RelG C σ s->FrameRel C env m σ s.heap->T m σ Q->r8 C σ s Q P->wpAny (model C.prog C.w) A (boolOp pos op (evalEach es env)) P E s
theorem HVs.one {op:BoolOp} {e:Expr} {T:ET} (he:HE C sc k e T):HVs C sc k op [e] T:=by
 refine⟨?_⟩;intro env A s m σ pos Q P E en ao R F q hP
 exact he.run env A s m σ Q P E en ao R F q hP
@[reducible] noncomputable def xA (T U:ET):ET:=fun m σ Q=>T m σ fun v σ'=>isB v fun b=>if b then U m σ' Q else Q (.bool false) σ'
@[reducible] noncomputable def xh (T U:ET):ET:=fun m σ Q=>T m σ fun v σ'=>isB v fun b=>if b then Q (.bool true) σ' else U m σ' Q
theorem yR {e f:Expr} {es:List Expr} {T U:ET} (he:HE C sc k e T) (hs:HVs C sc k .And (f::es) U):HVs C sc k .And (e::f::es) (xA T U):=by
 refine⟨?_⟩;intro env A s m σ pos Q P E en ao R F q hP
 show wpAny _ A (do
  let v <-eval e env
  standAt pos
  let t <-holding [v] (truthy v)
  match BoolOp.And,t with
  |.And,false | .Or,true=>pure v
  |_,_=>boolOp pos .And (evalEach (f::es) env)) P E s
 refine wpAny_bind (he.run env A s m σ _ _ E en ao R F q fun v w σ' s' hv R' S' q'=>wpAny_bind (wpAny_standAt (wpAny_bind (wpAny_holding ?_))))
 replace q':=q'.elim
 obtain ⟨b,rfl,q'⟩:=q'
 obtain rfl:=hv.invBool
 refine wpAny_truthy_bool ?_
 cases b with
 |false=>exact wpAny_pure (hP _ _ σ' s' (.bool false) R' S' (by simpa using q'))
 |true=>simp only[if_true] at q';exact hs.run env A s' m σ' pos Q P E en ao R' (F.step R S') q' fun v w σ₂ s₂ hv R₂ S₂ q₂=>hP v w σ₂ s₂ hv R₂ (S'.trans S₂) q₂
theorem HVs.or {e f:Expr} {es:List Expr} {T U:ET} (he:HE C sc k e T) (hs:HVs C sc k .Or (f::es) U):HVs C sc k .Or (e::f::es) (xh T U):=by
 refine⟨?_⟩;intro env A s m σ pos Q P E en ao R F q hP
 show wpAny _ A (do
  let v <-eval e env
  standAt pos
  let t <-holding [v] (truthy v)
  match BoolOp.Or,t with
  |.And,false | .Or,true=>pure v
  |_,_=>boolOp pos .Or (evalEach (f::es) env)) P E s
 refine wpAny_bind (he.run env A s m σ _ _ E en ao R F q fun v w σ' s' hv R' S' q'=>wpAny_bind (wpAny_standAt (wpAny_bind (wpAny_holding ?_))))
 replace q':=q'.elim
 obtain ⟨b,rfl,q'⟩:=q'
 obtain rfl:=hv.invBool
 refine wpAny_truthy_bool ?_
 cases b with
 |true=>exact wpAny_pure (hP _ _ σ' s' (.bool true) R' S' (by simpa using q'))
 |false=>simp only[Bool.false_eq_true,if_false] at q';exact hs.run env A s' m σ' pos Q P E en ao R' (F.step R S') q' fun v w σ₂ s₂ hv R₂ S₂ q₂=>hP v w σ₂ s₂ hv R₂ (S'.trans S₂) q₂
theorem vt {op:BoolOp} {es:List Expr} {pos:Pos} {T:ET} (h:HVs C sc k op es T):HE C sc k (.BoolOp op es pos) T:=by
 refine⟨?_⟩;intro env A s m σ Q P E en ao R F q hP
 exact h.run env A s m σ pos Q P E en ao R F q hP
theorem uQ {op:O2} {value slice:Expr} {pos:Pos} {T U:ET} (hv:HE C sc k value T) (hi:HE C sc k slice U)
  (hop:Op2 C k (fun o i=>getitemInPython o >>=fun b=>subscripted slice b o i) op):HE C sc k (.Subscript value slice pos) (bQ op T U):=by
 refine⟨?_⟩;intro env A s m σ Q P E en ao R F q hP
 show wpAny _ A (do
  let o <-eval value env
  let i <-holding [o] (eval slice env)
  standAt pos
  let r <-subscripted slice (<-getitemInPython o) o i
  letTemporaryGo value o r
  pure r) P E s
 refine wpAny_bind (wpAny_mono (two (P:=P) (E:=E) hop hv hi en ao R F q hP) (fun o s₁ h₁=>wpAny_bind (wpAny_holding (wpAny_mono h₁ (fun i s₂ h₂=>wpAny_bind (wpAny_standAt ?_)) fun _ _ x=>x))) fun _ _ x=>x)
 have h₃:wpAny (model C.prog C.w) A ((getitemInPython o >>=fun b=>subscripted slice b o i) >>=fun r=>letTemporaryGo value o r >>=fun _=>pure r) P E s₂:=
  wpAny_bind (wpAny_mono h₂ (fun r s₃ hr=>wpAny_bind (wpAny_letTemporaryGo (wpAny_pure hr))) fun _ _ x=>x)
 rwa [bind_assoc] at h₃
end
set_option tactic.hygienic true
noncomputable def bS (i:Int):Prop:=i.natAbs < 2 ^ 64
theorem uK {i:Int} {n:Nat} (h:0 < i) (h2:i < n):i.natAbs < n:=by obtain ⟨m,rfl⟩:=Int.eq_ofNat_of_zero_le (Int.le_of_lt h);exact Int.ofNat_lt.mp h2
theorem c7 {i:Int} (h:bS i):Builtin.Int.intBits i<=64:=by
 unfold Builtin.Int.intBits
 split
 ·decide
 ·rename_i hn
  have h0:i.natAbs≠0:=by
   intro e
   have:i=0:=Int.natAbs_eq_zero.mp e
   simp[this] at hn
  have:=(Nat.log2_lt h0).mpr h
  exact this
theorem cU {α:Type} [DecidableEq α] (a b:α):(a == b)=decide (a=b):=by
 by_cases h:a=b
 ·subst h;simp
 ·simp[h]
section
variable {C:Cx} {k:Nat}
noncomputable def pn:O2
 |.int x,.int y,σ,Q=>Q (.int (x-y)) σ
 |_,_,_,_=>False
theorem zu:Op2 C k (binaryOp .Sub) pn:=by
 intro A s σ a b wa wb Q P E ao R va vb q hP
 cases a<;>first | exact q.elim | skip
 cases b<;>first | exact q.elim | skip
 obtain ⟨_,rfl⟩:=va.invInt;obtain ⟨_,rfl⟩:=vb.invInt
 exact _root_.PySem.P.sub_int (hP _ _ σ _ (.int _ _) (R.tok _) Step.refl q)
noncomputable def wq:O2
 |.int x,.int y,σ,Q=>0 < y/\Q (.int (x % y)) σ
 |_,_,_,_=>False
theorem zy:Op2 C k (binaryOp .Mod) wq:=by
 intro A s σ a b wa wb Q P E ao R va vb q hP
 cases a<;>first | exact q.elim | skip
 cases b<;>first | exact q.elim | skip
 obtain ⟨_,rfl⟩:=va.invInt;obtain ⟨_,rfl⟩:=vb.invInt
 rename_i x t y u
 refine bH q fun hy q=>?_
 refine PyProof.Rows.mod_int' (by exact Int.ne_of_gt hy) ?_
 rw[Int.fmod_eq_emod_of_nonneg _ (by exact Int.le_of_lt hy)]
 exact hP _ _ σ _ (.int _ _) (R.tok _) Step.refl q
noncomputable def ww:O2
 |.int x,.int y,σ,Q=>(0 < y/\y < 1073741824)/\Q (.int (x / y)) σ
 |_,_,_,_=>False
theorem zz:Op2 C k (binaryOp .FloorDiv) ww:=by
 intro A s σ a b wa wb Q P E ao R va vb q hP
 cases a<;>first | exact q.elim | skip
 cases b<;>first | exact q.elim | skip
 obtain ⟨_,rfl⟩:=va.invInt;obtain ⟨_,rfl⟩:=vb.invInt
 refine bH q fun hy q=>?_
 refine PyProof.Rows.floordiv_int (by exact Int.ne_of_gt hy.1) ?_ (.inl (PyProof.noPylong_small (uK (n:=1073741824) hy.1 hy.2)))
 rw[Int.fdiv_eq_ediv_of_nonneg _ (by exact Int.le_of_lt hy.1)]
 exact hP _ _ σ _ (.int _ _) (R.tok _) Step.refl q
noncomputable def sI:O2
 |.int x,.int y,σ,Q=>(bS x\/bS y)/\Q (.int (x*y)) σ
 |_,_,_,_=>False
theorem tO:Op2 C k (binaryOp .Mult) sI:=by
 intro A s σ a b wa wb Q P E ao R va vb q hP
 cases a<;>first | exact q.elim | skip
 cases b<;>first | exact q.elim | skip
 obtain ⟨_,rfl⟩:=va.invInt;obtain ⟨_,rfl⟩:=vb.invInt
 refine _root_.PySem.P.mul_int (hP _ _ σ _ (.int _ _) (R.tok _) Step.refl q.2) (q.1.elim (fun h=>.of_left (c7 h)) fun h=>?_)
 exact .of_right (c7 h)
noncomputable def wr:O2
 |.int x,.int y,σ,Q=>Q (.bool (decide (x < y))) σ
 |_,_,_,_=>False
noncomputable def rj:O2
 |.int x,.int y,σ,Q=>Q (.bool (decide (x<=y))) σ
 |_,_,_,_=>False
noncomputable def zr:O2
 |.int x,.int y,σ,Q=>Q (.bool (decide (x > y))) σ
 |_,_,_,_=>False
theorem wz:Op2 C k (compareOp .Lt) wr:=by
 intro A s σ a b wa wb Q P E ao R va vb q hP
 cases a<;>first | exact q.elim | skip
 cases b<;>first | exact q.elim | skip
 obtain ⟨_,rfl⟩:=va.invInt;obtain ⟨_,rfl⟩:=vb.invInt
 exact _root_.PySem.P.lt_int (hP _ _ σ _ (.bool _) R Step.refl q)
theorem pC:Op2 C k (compareOp .LtE) rj:=by
 intro A s σ a b wa wb Q P E ao R va vb q hP
 cases a<;>first | exact q.elim | skip
 cases b<;>first | exact q.elim | skip
 obtain ⟨_,rfl⟩:=va.invInt;obtain ⟨_,rfl⟩:=vb.invInt
 exact _root_.PySem.P.le_int (hP _ _ σ _ (.bool _) R Step.refl q)
theorem AF:Op2 C k (compareOp .Gt) zr:=by
 intro A s σ a b wa wb Q P E ao R va vb q hP
 cases a<;>first | exact q.elim | skip
 cases b<;>first | exact q.elim | skip
 obtain ⟨_,rfl⟩:=va.invInt;obtain ⟨_,rfl⟩:=vb.invInt
 exact _root_.PySem.P.gt_int (hP _ _ σ _ (.bool _) R Step.refl q)
noncomputable def wn:O1
 |.int x,σ,Q=>Q (.int (-x)) σ
 |_,_,_=>False
theorem zw:AS C k (unaryOp .USub) wn:=by
 intro A s σ a wa Q P E ao R va q hP
 cases a<;>first | exact q.elim | skip
 obtain ⟨_,rfl⟩:=va.invInt
 exact _root_.PySem.P.neg_int (hP _ _ σ _ (.int _ _) (R.tok _) Step.refl q)
noncomputable def veq0:V->V->Option Bool
 |.none,.none=>some true
 |.none,.str _=>some false
 |.str _,.none=>some false
 |.bool a,.bool b=>some (a == b)
 |.int a,.int b=>some (decide (a=b))
 |.str a,.str b=>some (decide (a=b))
 |_,_=>none
theorem veq0.ind {a b:V} {r:Bool} (h:veq0 a b=some r) {P:V->V->Bool->Prop} (c1:P .none .none true) (c2:∀y,P .none (.str y) false) (c3:∀x,P (.str x) .none false)
  (c4:∀x y,P (.bool x) (.bool y) (x == y)) (c5:∀x y,P (.int x) (.int y) (decide (x=y))) (c6:∀x y,P (.str x) (.str y) (decide (x=y))):P a b r:=by
 have w:∀{X:Prop},(Option.none:Option Bool)=some r->X:=fun e=>by cases e
 have z:∀{c:Bool},some c=some r->P a b c->P a b r:=fun e=>Option.some.inj e▸id
 cases a<;>first | exact w h | skip
 all_goals (cases b<;>first | exact w h | exact z h c1 | exact z h (c2 _) | exact z h (c3 _) | exact z h (c4 _ _) | exact z h (c5 _ _) | exact z h (c6 _ _))
theorem veq0.rel {aS:Addr} {h':Heap} {a b:V} {wa wb:Value} {r:Bool} (h:veq0 a b=some r) (va:VRel aS h' a wa) (vb:VRel aS h' b wb) {P:Value->Value->Bool->Prop} (c1:P .none .none true) (c2:∀y t,P .none (.str y t) false) (c3:∀x t,P (.str x t) .none false)
  (c4:∀x y,P (.bool x) (.bool y) (x == y)) (c5:∀x y t u,P (.int x t) (.int y u) (decide (x=y))) (c6:∀x y t u,P (.str x t) (.str y u) (decide (x=y))):P wa wb r:=
 veq0.ind h (P:=fun a b r=>VRel aS h' a wa->VRel aS h' b wb->P wa wb r) (fun va vb=>by rw[va.invNone,vb.invNone];exact c1) (fun y va vb=>by rw[va.invNone];exact vb.invStr.elim fun t e=>e▸c2 y t) (fun x va vb=>by rw[vb.invNone];exact va.invStr.elim fun t e=>e▸c3 x t)
  (fun x y va vb=>by rw[va.invBool,vb.invBool];exact c4 x y) (fun x y va vb=>va.invInt.elim fun t e=>vb.invInt.elim fun u e'=>e▸e'▸c5 x y t u) (fun x y va vb=>va.invStr.elim fun t e=>vb.invStr.elim fun u e'=>e▸e'▸c6 x y t u) va vb
noncomputable def wv:O2:=fun a b σ Q=>atK (veq0 a b) fun r=>Q (.bool r) σ
noncomputable def sH:O2:=fun a b σ Q=>atK (veq0 a b) fun r=>Q (.bool (!r)) σ
theorem t0:Op2 C k (compareOp .Eq) wv:=by
 intro A s σ a b wa wb Q P E ao R va vb q₀ hP
 refine x1_2 q₀.elim fun r hr q=>?_
 refine veq0.rel hr va vb (P:=fun wa wb r=>(∀t,P (.bool r) {s with toks:=t})->wpAny (model C.prog C.w) A (compareOp .Eq wa wb) P E s) (fun p=>PySem.EqNone.eq_none_none (p _)) (fun _ _ p=>PySem.EqNone.eq_none_str (p _)) (fun _ _ p=>PySem.EqNone.eq_str_none (p _)) (fun _ _ p=>PyProof.Rows.eq_bool (p _))
  (fun _ _ _ _ p=>_root_.PySem.P.eq_int (by rw[cU];exact p _)) (fun _ _ _ _ p=>PyProof.Rows.eq_str (by rw[cU];exact p _)) fun t=>hP _ _ σ _ (.bool _) (R.tok t) Step.refl q
theorem tN:Op2 C k (compareOp .NotEq) sH:=by
 intro A s σ a b wa wb Q P E ao R va vb q₀ hP
 refine x1_2 q₀.elim fun r hr q=>?_
 refine veq0.rel hr va vb (P:=fun wa wb r=>(∀t,P (.bool !r) {s with toks:=t})->wpAny (model C.prog C.w) A (compareOp .NotEq wa wb) P E s) (fun p=>PySem.EqNone.ne_none_none (p _)) (fun _ _ p=>PySem.EqNone.ne_none_str (p _)) (fun _ _ p=>PySem.EqNone.ne_str_none (p _)) (fun _ _ p=>PyProof.Rows.ne_bool (p _))
  (fun _ _ _ _ p=>_root_.PySem.P.ne_int (by rw[bne,cU];exact p _)) (fun _ _ _ _ p=>PyProof.Rows.ne_str (by rw[bne,cU];exact p _)) fun t=>hP _ _ σ _ (.bool _) (R.tok t) Step.refl q
noncomputable def AC:O2
 |.str y,.str x,σ,Q=>Q (.bool (Txt.contains x y)) σ
 |_,_,_,_=>False
noncomputable def jy:O2
 |.str y,.str x,σ,Q=>Q (.bool (!Txt.contains x y)) σ
 |_,_,_,_=>False
theorem nn:Op2 C k (compareOp .NotIn) jy:=by
 intro A s σ a b wa wb Q P E ao R va vb q hP
 cases a<;>first | exact q.elim | skip
 cases b<;>first | exact q.elim | skip
 obtain ⟨_,rfl⟩:=va.invStr;obtain ⟨_,rfl⟩:=vb.invStr
 exact SB.notContains (hP _ _ σ _ (.bool _) R Step.refl q)
end
set_option tactic.hygienic false
theorem aX {a b:String} (h:Str.ofString a=Str.ofString b):a=b:=by
 rw[Str.ofString_eq_toList,Str.ofString_eq_toList] at h
 have h1:(a.toList.map Char.toNat)=(b.toList.map Char.toNat):=by
  have:=congrArg (fun x:Str=>x.cps.toList) h
  simpa using this
 have h2:a.toList=b.toList:=by
  refine (List.map_inj_right ?_).mp h1
  intro x y e
  exact Char.toNat_inj.mp e
 exact String.toList_inj.mp h2
inductive Fl where
 |next | brk | cont
 |ret (v:V)
abbrev ST:=aq->ae->(Fl->aq->ae->Prop)->Prop
inductive FlRel (aS:Addr) (h:Heap):Fl->Flow->Prop
 |next:FlRel aS h .next .next
 |brk:FlRel aS h .brk .brk
 |cont:FlRel aS h .cont .cont
 |ret {v:V} {w:Value}:VRel aS h v w->FlRel aS h (.ret v) (.ret w)
abbrev oj (C:Cx) (env:Env) (σ:ae) (s:Shared) (Q:Fl->aq->ae->Prop) (P:Flow->Shared->Prop):Prop:=
 ∀f g m' σ' s',FlRel C.aS s'.heap f g->RelG C σ' s'->FrameRel C env m' σ' s'.heap->Step (dZ env) σ σ' s.heap s'.heap->Q f m' σ'->P g s'
structure HS (C:Cx) (sc:Scope) (k:Nat) (b:List Stmt) (T:ST):Prop where
 run:∀(env:Env) (A:Around) (s:Shared) (m:aq) (σ:ae) (Q:Fl->aq->ae->Prop) (P:Flow->Shared->Prop) (E:Value->Shared->Prop),
  EnvOk env sc->AOk C A k->RelG C σ s->FrameRel C env m σ s.heap->T m σ Q->oj C env σ s Q P->wpAny (model C.prog C.w) A (execs b env) P E s
structure HS1 (C:Cx) (sc:Scope) (k:Nat) (b:Stmt) (T:ST):Prop where
 run:∀(env:Env) (A:Around) (s:Shared) (m:aq) (σ:ae) (Q:Fl->aq->ae->Prop) (P:Flow->Shared->Prop) (E:Value->Shared->Prop),
  EnvOk env sc->AOk C A k->RelG C σ s->FrameRel C env m σ s.heap->T m σ Q->oj C env σ s Q P->wpAny (model C.prog C.w) A (exec b env) P E s
section
variable {C:Cx} {sc:Scope} {k:Nat}
theorem FrameRel.ownT {env:Env} {m:aq} {σ:ae} {h:Heap} (F:FrameRel C env m σ h):∀b o,dZ env b->h.get? b=some o->¬d4 o:=by
 rintro b o (rfl | ⟨n,hn⟩) ho ⟨_,it,n',hd⟩
 ·obtain ⟨mm,⟨o',es,ep,ho',hd',_⟩,_⟩:=F.ns
  rw[ho] at ho';cases Option.some.inj ho';rw[hd] at hd';cases hd'
 ·refine x2_2 (F.cells n b hn) fun v o' ho' hd'=>?_
  rw[ho] at ho';cases Option.some.inj ho';rw[hd] at hd';cases hd'
theorem Step.tupsO {env:Env} {m:aq} {σ σ':ae} {s:Shared} {h':Heap} (F:FrameRel C env m σ s.heap) (R:RelG C σ s) (S:Step (dZ env) σ σ' s.heap h'):ar s.heap h':=S.tups R F.ownT
theorem Step.own {env:Env} {σ σ':ae} {h h':Heap} (S:Step no σ σ' h h'):Step (dZ env) σ σ' h h':=S.mono fun _ _ _ z=>z.elim
@[reducible] noncomputable def iy:ST:=fun m σ Q=>Q .next m σ
@[reducible] noncomputable def kS (U:ST) (Q:Fl->aq->ae->Prop):Fl->aq->ae->Prop:=fun f m σ=>match f with
 |.next=>U m σ Q
 |f=>Q f m σ
@[reducible] noncomputable def gM (T U:ST):ST:=fun m σ Q=>T m σ (kS U Q)
theorem HS.nil:HS C sc k [] iy:=⟨fun _ _ s m σ _ _ _ _ _ R F q hP=>wpAny_execs_nil (hP .next .next m σ s .next R F Step.refl q)⟩
theorem HS.cons {st:Stmt} {b:List Stmt} {T U:ST} (h1:HS1 C sc k st T) (h2:HS C sc k b U):HS C sc k (st::b) (gM T U):=by
 refine⟨?_⟩;intro env A s m σ Q P E en ao R F q hP
 refine wpAny_execs_cons (h1.run env A s m σ _ _ E en ao R F q fun f g m₁ σ₁ s₁ hf R₁ F₁ S₁ q₁=>?_)
 cases hf with
 |next=>exact h2.run env A s₁ m₁ σ₁ Q P E en ao R₁ F₁ q₁ fun f g m₂ σ₂ s₂ hf R₂ F₂ S₂ q₂=>hP f g m₂ σ₂ s₂ hf R₂ F₂ (S₁.trans S₂) q₂
 |brk=>exact hP _ _ m₁ σ₁ s₁ .brk R₁ F₁ S₁ q₁
 |cont=>exact hP _ _ m₁ σ₁ s₁ .cont R₁ F₁ S₁ q₁
 |ret hv=>exact hP _ _ m₁ σ₁ s₁ (.ret hv) R₁ F₁ S₁ q₁
theorem bf {env:Env} {A:Around} {s:Shared} {m:aq} {σ:ae} {x:String} {v:V} {w:Value} {P:Unit->Shared->Prop} {E:Value->Shared->Prop} (en:EnvOk env sc) (R:RelG C σ s) (F:FrameRel C env m σ s.heap)
  (hl:sc.names.lookup (Str.ofString x)=some .local) (hv:VRel C.aS s.heap v w)
  (h:∀s',RelG C σ s'->FrameRel C env (put m x v) σ s'.heap->Step (fun b=>b=env.locals) σ σ s.heap s'.heap->P () s'):wpAny (model C.prog C.w) A (storeName env (Str.ofString x) w) P E s:=by
 refine x1_2 F.ns fun mm hn hm=>?_
 have kl:=en.of hl
 refine wpAny_storeName_local kl hn (fun h' hn' hs'=>?_) (by rw[en.k];rfl)
 refine x3_3 (id hn) fun oL esL epL hoL hdL _=>?_
 have kt:ar s.heap h':=fun b o e ht=>(hs'.2 b (by rintro rfl;rw[hoL] at e;cases Option.some.inj e;obtain ⟨_,_,_,hd⟩:=ht;rw[hdL] at hd;cases hd)).trans e
 have kc:∀c v,s.heap.IsCell c v->h'.IsCell c v:=fun c v ⟨o,ho,hd⟩=>⟨o,(hs'.2 c (by rintro rfl;rw[hoL] at ho;cases Option.some.inj ho;rw[hdL] at hd;cases hd)).trans ho,hd⟩
 refine h _ ?_ ?_ ?_
 ·refine⟨let ⟨_,_,d,e⟩:=R.rest;⟨h',s.toks+1,d,by rw[e]⟩,fun b o e=>?_,fun a o e=>?_,R.apart⟩
  ·exact (hs'.2 b (by rintro rfl;rw[F.baseL] at e;cases e)).trans (R.base b o e)
  ·exact (R.view a o e).keep kt fun o' e'=>(hs'.2 a (by rintro rfl;rw[F.sepL] at e;cases e)).trans e'
 ·refine⟨⟨_,hn',fun y u e ky=>?_⟩,fun y u e=>?_,fun n c e=>?_,F.sepL,F.baseL,F.baseC,F.dist,F.has⟩
  ·by_cases hy:y=x
   ·subst hy;rw[fP] at e;cases Option.some.inj e;exact⟨w,by simp,hv.keep kt⟩
   ·rw[aj hy] at e
    refine x1_2 (hm y u e ky) fun w' h1 h2=>?_
    exact⟨w',by simp[show ¬Str.ofString y=Str.ofString x from fun z=>hy (aX z),h1],h2.keep kt⟩
  ·by_cases hy:y=x
   ·subst hy;exact .inl kl
   ·rw[aj hy] at e
    rcases F.cel y u e with z | ⟨z,c,w',h1,h2,h3⟩
    ·exact .inl z
    ·exact .inr ⟨z,c,w',h1,kc _ _ h2,h3.keep kt⟩
  ·refine x1_1 (F.cells n c e) fun v hv=>?_;exact⟨v,kc _ _ hv⟩
 ·exact .of (fun b o e n q=>(hs'.2 b q).trans e) (Nat.le_of_eq hs'.1.symm) fun _ a b=>absurd a b
theorem kJ {env:Env} {A:Around} {s:Shared} {m:aq} {σ:ae} {x:String} {v:V} {w:Value} {P:Unit->Shared->Prop} {E:Value->Shared->Prop} (en:EnvOk env sc) (R:RelG C σ s) (F:FrameRel C env m σ s.heap)
  (hl:sc.names.lookup (Str.ofString x)=some .cell) (hv:VRel C.aS s.heap v w)
  (h:∀s',RelG C σ s'->FrameRel C env (put m x v) σ s'.heap->Step (dZ env) σ σ s.heap s'.heap->P () s'):wpAny (model C.prog C.w) A (storeName env (Str.ofString x) w) P E s:=by
 have kl:=en.of hl
 refine x1_1 (F.has _ (.inl kl)) fun c₀ hc₀=>?_
 refine x1_1 (F.cells _ _ hc₀) fun v₀ hv₀=>?_
 refine wpAny_storeName_cell en.k kl hc₀ hv₀ fun h' hc' hs'=>?_
 refine x1_2 (id hv₀) fun oc hoc hdc=>?_
 have kt:ar s.heap h':=fun b o e ht=>(hs'.2 b (by rintro rfl;rw[hoc] at e;cases Option.some.inj e;obtain ⟨_,_,_,hd⟩:=ht;rw[hdc] at hd;cases hd)).trans e
 have kc:∀c v,c≠c₀->s.heap.IsCell c v->h'.IsCell c v:=fun c v hne ⟨o,ho,hd⟩=>⟨o,(hs'.2 c hne).trans ho,hd⟩
 refine x1_2 F.ns fun mm hn hm=>?_
 have hL:env.locals≠c₀:=by
  rintro e
  refine x3_3 hn fun oL _ _ hoL hdL _=>?_;clear hn
  rw[e,hoc] at hoL;cases Option.some.inj hoL;rw[hdc] at hdL;cases hdL
 have hσ:σ c₀=Option.none:=by
  cases z:σ c₀ with
  |none=>rfl
  |some o'=>refine x1_3 ((R.view c₀ o' z).shape) fun ob h1 _ h3=>?_;rw[hoc] at h1;cases Option.some.inj h1;exact absurd hdc (h3 _)
 refine h _ ?_ ?_ ?_
 ·refine⟨let ⟨_,_,d,e⟩:=R.rest;⟨h',s.toks,d,by rw[e]⟩,fun b o e=>?_,fun a o e=>?_,R.apart⟩
  ·exact (hs'.2 b (by rintro rfl;rw[F.baseC _ _ hc₀] at e;cases e)).trans (R.base b o e)
  ·exact (R.view a o e).keep kt fun o' e'=>(hs'.2 a (by rintro rfl;rw[hσ] at e;cases e)).trans e'
 ·refine⟨⟨mm,hn.sameBut hs' hL,fun y u e ky=>?_⟩,fun y u e=>?_,fun n c e=>?_,F.sepL,F.baseL,F.baseC,F.dist,F.has⟩
  ·have hy:y≠x:=by rintro rfl;rw[kl] at ky;cases Option.some.inj ky
   rw[aj hy] at e
   refine x1_2 (hm y u e ky) fun w' h1 h2=>?_
   exact⟨w',h1,h2.keep kt⟩
  ·by_cases hy:y=x
   ·subst hy;rw[fP] at e;cases Option.some.inj e;exact .inr ⟨.inl kl,c₀,w,hc₀,hc',hv.keep kt⟩
   ·rw[aj hy] at e
    rcases F.cel y u e with z | ⟨z,c,w',h1,h2,h3⟩
    ·exact .inl z
    ·exact .inr ⟨z,c,w',h1,kc _ _ (by rintro rfl;exact hy (aX (name_of_addr F.dist (mem_of_lookup h1) (mem_of_lookup hc₀)))) h2,h3.keep kt⟩
  ·by_cases hc:c=c₀
   ·subst hc;exact⟨_,hc'⟩
   ·refine x1_1 (F.cells n c e) fun v hv=>?_;exact⟨v,kc _ _ hc hv⟩
 ·exact .of (fun b o e n q=>(hs'.2 b fun z=>q (.inr ⟨_,z▸hc₀⟩)).trans e) (Nat.le_of_eq hs'.1.symm) fun _ a b=>absurd a b
noncomputable def Af (sc:Scope) (x:String):Prop:=sc.names.lookup (Str.ofString x)=some .local\/sc.names.lookup (Str.ofString x)=some .cell
theorem store {env:Env} {A:Around} {s:Shared} {m:aq} {σ:ae} {x:String} {v:V} {w:Value} {P:Unit->Shared->Prop} {E:Value->Shared->Prop} (en:EnvOk env sc) (R:RelG C σ s) (F:FrameRel C env m σ s.heap)
  (hl:Af sc x) (hv:VRel C.aS s.heap v w)
  (h:∀s',RelG C σ s'->FrameRel C env (put m x v) σ s'.heap->Step (dZ env) σ σ s.heap s'.heap->P () s'):wpAny (model C.prog C.w) A (storeName env (Str.ofString x) w) P E s:=
 hl.elim (fun z=>bf en R F z hv fun s' R' F' S'=>h s' R' F' (S'.mono fun _ _ _ q=>.inl q)) fun z=>kJ en R F z hv h
@[reducible] noncomputable def o9 (x:String) (m:aq) (Q:Fl->aq->ae->Prop):V->ae->Prop:=fun v σ=>Q .next (put m x v) σ
@[reducible] noncomputable def kQ (x:String) (T:ET):ST:=fun m σ Q=>T m σ (o9 x m Q)
theorem HS1.set {x:String} {p pos:Pos} {value:Expr} {T:ET} (hx:Af sc x) (he:HE C sc k value T) (hs:∀env,EnvOk env sc->swapsWith value (some (.Name (Str.ofString x) p)) pos.line env=pure false):HS1 C sc k (.Assign [.Name (Str.ofString x) p] value pos) (kQ x T):=by
 refine⟨?_⟩;intro env A s m σ Q P E en ao R F q hP
 refine wpAny_Assign_Name (he.run env A s m σ _ _ E en ao R F q fun v w σ₁ s₁ hv R₁ S₁ q₁=>?_) (hs env en)
 exact store en R₁ (F.step R S₁) hx hv fun s₂ R₂ F₂ S₂=>hP .next .next _ σ₁ s₂ .next R₂ F₂ ((S₁.own).trans S₂) q₁
@[reducible] noncomputable def sQ (m:aq) (Q:Fl->aq->ae->Prop):V->ae->Prop:=fun _ σ=>Q .next m σ
@[reducible] noncomputable def pd (T:ET):ST:=fun m σ Q=>T m σ (sQ m Q)
theorem xX {pos:Pos} {value:Expr} {T:ET} (he:HE C sc k value T) (hs:∀env,EnvOk env sc->swapsWith value Option.none pos.line env=pure false):HS1 C sc k (.Expr value pos) (pd T):=by
 refine⟨?_⟩;intro env A s m σ Q P E en ao R F q hP
 have hi:interactive env=false:=by unfold interactive;rw[en.k];rfl
 rw[exec_Expr env value pos hi (hs env en)]
 refine wpAny_bind (wpAny_standAt (wpAny_bind (he.run env A s m σ _ _ E en ao R F q fun v w σ₁ s₁ hv R₁ S₁ q₁=>?_)))
 exact wpAny_dropValue (hP .next .next m σ₁ s₁ .next R₁ (F.step R S₁) S₁.own q₁)
@[reducible] noncomputable def A7 (T U:ST) (m:aq) (Q:Fl->aq->ae->Prop):Bool->ae->Prop:=fun b σ=>if b then T m σ Q else U m σ Q
@[reducible] noncomputable def zo (B:BT) (T U:ST):ST:=fun m σ Q=>B m σ (A7 T U m Q)
theorem r3 {pos:Pos} {test:Expr} {a b:List Stmt} {B:BT} {T U:ST} (hb:HB C sc k test B) (h1:HS C sc k a T) (h2:HS C sc k b U):HS1 C sc k (.If test a b pos) (zo B T U):=by
 refine⟨?_⟩;intro env A s m σ Q P E en ao R F q hP
 refine wpAny_If (hb.run env A s m σ _ _ E en ao R F q fun b σ₁ s₁ R₁ S₁ q₁=>?_)
 cases b with
 |true=>simp only[if_true] at q₁ ⊢;exact h1.run env A s₁ m σ₁ Q P E en ao R₁ (F.step R S₁) q₁ fun f g m₂ σ₂ s₂ hf R₂ F₂ S₂ q₂=>hP f g m₂ σ₂ s₂ hf R₂ F₂ (S₁.own.trans S₂) q₂
 |false=>simp only[Bool.false_eq_true,if_false] at q₁ ⊢;exact h2.run env A s₁ m σ₁ Q P E en ao R₁ (F.step R S₁) q₁ fun f g m₂ σ₂ s₂ hf R₂ F₂ S₂ q₂=>hP f g m₂ σ₂ s₂ hf R₂ F₂ (S₁.own.trans S₂) q₂
@[reducible] noncomputable def wf (m:aq) (Q:Fl->aq->ae->Prop):V->ae->Prop:=fun v σ=>Q (.ret v) m σ
@[reducible] noncomputable def tw (T:ET):ST:=fun m σ Q=>T m σ (wf m Q)
theorem HS1.ret {pos:Pos} {value:Expr} {T:ET} (he:HE C sc k value T):HS1 C sc k (.Return (some value) pos) (tw T):=by
 refine⟨?_⟩;intro env A s m σ Q P E en ao R F q hP
 exact wpAny_Return_some (he.run env A s m σ _ _ E en ao R F q fun v w σ₁ s₁ hv R₁ S₁ q₁=>hP (.ret v) (.ret w) m σ₁ s₁ (.ret hv) R₁ (F.step R S₁) S₁.own q₁)
end
abbrev aK:=List V->ae->(V->ae->Prop)->Prop
noncomputable def FnSound (C:Cx) (j:Nat) (f:Addr) (spec:aK):Prop:=
 ∀(A:Around) (s:Shared) (σ:ae) (vs:List V) (ws:List Value) (Q:V->ae->Prop) (P:Value->Shared->Prop) (E:Value->Shared->Prop),
  AOk C A (j+1)->RelG C σ s->VRels C.aS s.heap vs ws->spec vs σ Q->r8 C σ s Q P->codeAny (model C.prog C.w) A (.call (.ref f) ⟨ws,[]⟩) (fun r s'=>match r with | .ok (.ret v)=>P v s' | .ok _=>False | .error e=>E e s') s
noncomputable def cZ:aq:=fun _=>Option.none
noncomputable def bD:List String->List V->aq->aq
 |x::xs,v::vs,m=>bD xs vs (put m x v)
 |_,_,m=>m
theorem c8 {x:Str} (names:List (Str×NameKind)):∀(n:Nat) (acc:List (Str×Addr)),(names.lookup x=some .cell\/∃c,acc.lookup x=some c)->∃c,(cellsFrom n names acc).lookup x=some c:=by
 induction names with
 |nil=>exact fun _ _ h=>h.elim (fun e=>(Option.some_ne_none _ e.symm).elim) id
 |cons p r ih=>
  intro n acc h
  have lc:∀{β:Type} (b:β) (l:List (Str×β)),(x == p.1)=false->List.lookup x ((p.1,b)::l)=l.lookup x:=fun b l hb=>by rw[List.lookup_cons,hb]
  show ∃c,List.lookup x (if p.2 == .cell then cellsFrom (n+1) r ((p.1,n)::acc) else cellsFrom n r acc)=some c
  cases hb:x == p.1
  ·have h':=h.imp (fun e=>(lc _ _ hb).symm.trans e) id
   split
   ·exact ih _ _ (h'.imp id fun ⟨c,e⟩=>⟨c,(lc _ _ hb).trans e⟩)
   ·exact ih _ _ h'
  ·split
   ·exact ih _ _ (.inr ⟨n,by rw[List.lookup_cons,hb]⟩)
   ·rename_i hq
    refine ih _ _ (.inr (h.elim (fun e=>?_) id))
    rw[List.lookup_cons,hb] at e
    exact absurd (beq_iff_eq.mpr (Option.some.inj e)) hq
section
variable {C:Cx}
noncomputable def zc (C:Cx) (h:Heap) (kindOf:Str->Option NameKind) (m:aq) (mL mC:Str->Option Value):Prop:=
 ∀x v,m x=some v->(kindOf (Str.ofString x)=some .local/\∃w,mL (Str.ofString x)=some w/\VRel C.aS h v w)\/(kindOf (Str.ofString x)=some .cell/\∃w,mC (Str.ofString x)=some w/\VRel C.aS h v w)
theorem lQ {c:Prop} [Decidable c] {f:Str->Option Value} {n y:Str} {w:Value} (hne:y≠n):(if c then fun z=>if z=n then some w else f z else f) y=f y/\(if c then f else fun z=>if z=n then some w else f z) y=f y:=by
 have e:(if y=n then some w else f y)=f y:=if_neg hne
 split
 ·exact⟨e,rfl⟩
 ·exact⟨rfl,e⟩
theorem lI {h:Heap} (kindOf:Str->Option NameKind) {vs:List V} {ws:List Value} (hvs:VRels C.aS h vs ws):∀(xs:List String) (m:aq) (mL mC:Str->Option Value),
  (∀x∈xs,kindOf (Str.ofString x)=some .local\/kindOf (Str.ofString x)=some .cell)->zc C h kindOf m mL mC->
  zc C h kindOf (bD xs vs m) (bindL kindOf ((xs.map Str.ofString).zip ws) mL) (bindC kindOf ((xs.map Str.ofString).zip ws) mC):=by
 refine @VRels.ind C.aS h (fun vs ws=>∀(xs:List String) (m:aq) (mL mC:Str->Option Value),(∀x∈xs,kindOf (Str.ofString x)=some .local\/kindOf (Str.ofString x)=some .cell)->zc C h kindOf m mL mC->zc C h kindOf (bD xs vs m) (bindL kindOf ((xs.map Str.ofString).zip ws) mL) (bindC kindOf ((xs.map Str.ofString).zip ws) mC)) ?_ ?_ _ _ hvs
 ·intro xs m mL mC _ hm
  cases xs<;>exact hm
 ·intro v w vs ws hv _ ih xs
  cases xs with
  |nil=>exact fun m mL mC _ hm=>hm
  |cons x xs=>
   refine fun m mL mC hk hm=>ih xs _ _ _ (fun y hy=>hk y (.tail _ hy)) fun y u e=>?_
   by_cases hy:y=x
   ·subst hy
    rw[fP] at e
    rw[<-Option.some.inj e]
    refine (hk y (.head _)).imp (fun z=>⟨z,w,?_,hv⟩) fun z=>⟨z,w,?_,hv⟩
    ·rw[if_pos z];exact if_pos rfl
    ·rw[if_neg (by rw[z];decide)];exact if_pos rfl
   ·rw[aj hy] at e
    have hne:Str.ofString y≠Str.ofString x:=fun z=>hy (aX z)
    exact (hm y u e).imp (fun ⟨z,w',h1,h2⟩=>⟨z,w',(lQ hne).1.trans h1,h2⟩) fun ⟨z,w',h1,h2⟩=>⟨z,w',(lQ hne).2.trans h1,h2⟩
structure CallFr (C:Cx) (A:Around) (j:Nat) (sc:Scope) (s s₁:Shared) (env:Env) (m:aq) (σ:ae):Prop where
 en:EnvOk env sc
 ao:AOk C (A.deeper env) j
 rel:RelG C σ s₁
 fr:FrameRel C env m σ s₁.heap
 eF:env.frame=some env.locals
 own:∀b,dZ env b->s.heap.objs.size<=b
 keep:∀b o,s.heap.get? b=some o->s₁.heap.get? b=some o
 sz:s.heap.objs.size<=s₁.heap.objs.size
theorem CallFr.step {A:Around} {j:Nat} {sc:Scope} {s s₁:Shared} {env:Env} {m:aq} {σ σ':ae} {h':Heap} (K:CallFr C A j sc s s₁ env m σ) (S:Step (dZ env) σ σ' s₁.heap h'):Step no σ σ' s.heap h':=
 ⟨fun b o e n _=>S.keepL b o (K.keep b o e) n fun z=>Nat.not_le_of_lt (Heap.lt_size e) (K.own b z),Nat.le_trans K.sz S.size,fun b n m=>Nat.le_trans K.sz (S.new b n m)⟩
theorem ik (O:C.Ok) {f:Addr} {o:Obj} {fd:FuncData} {body:List Stmt} {xs:List String} {j:Nat}
  (ho:C.hB.get? f=some o) (hd:o.data=.func fd) (hcd:C.hB.CodeRec fd.code fd.qualname) (hb:fd.body=.stmts body) (hcl:fd.closure=[]) (hg:fd.globals=mainGlobals) (hbi:fd.builtins=builtinsNs)
  (hk:fd.scope.kind=.function) (hfr:∀p∈fd.scope.names,p.2≠.free) (hco:fd.scope.isCoroutine=false) (hgen:fd.scope.isGenerator=false)
  (hbind:∀ws:List Value,ws.length=xs.length->bindArgs fd ⟨ws,[]⟩=pure ((xs.map Str.ofString).zip ws))
  (hloc:∀x∈xs,fd.scope.names.lookup (Str.ofString x)=some .local\/fd.scope.names.lookup (Str.ofString x)=some .cell)
  {A:Around} {s:Shared} {σ:ae} {vs:List V} {ws:List Value} {Rr:Result->Shared->Prop} (ao:AOk C A (j+1)) (R:RelG C σ s) (hvs:VRels C.aS s.heap vs ws) (hlen:vs.length=xs.length)
  (h:∀env s₁,CallFr C A j fd.scope s s₁ env (bD xs vs cZ) σ->wpAny (model C.prog C.w) (A.deeper env) (execs body env) (fun f s'=>Rr (.ok (.ret (match f with | .ret v=>v | _=>.none))) s')
    (fun e s'=>wpAny (model C.prog C.w) (A.deeper env) (leaving env e) (fun _ s''=>Rr (.error e) s'') (fun e' s''=>Rr (.error e') s'') s') s₁):codeAny (model C.prog C.w) A (.call (.ref f) ⟨ws,[]⟩) Rr s:=by
 refine codeAny_call_cells (fd:=fd) (body:=body) (binds:=(xs.map Str.ofString).zip ws) (Nat.lt_of_le_of_lt (Nat.le_trans (Nat.le_add_right _ _) (Nat.le_add_right _ _)) ao.depth) (R.base _ _ ho) hd (O.nolimit.keeps R.base) (hcd.keeps R.base) hb (hbind ws (hvs.length.symm.trans hlen)) hcl (fun x hx=>?_) (fun s₁ x=>h _ s₁ ?_) hco hgen hk
 ·refine x1_2 (List.mem_map.mp (List.of_mem_zip (a:=x.1) (b:=x.2) hx).1) fun y hy e=>?_
  rw[<-e]
  exact (hloc y hy).imp id fun z=>⟨z,Option.isSome_iff_exists.mpr (c8 fd.scope.names (s.heap.objs.size+1) [] (.inl z))⟩
 ·have keep:=x.toInCall.keep
  have R₁:RelG C σ s₁:=by
   refine x2_1 x.toInCall.same fun h₁ tk₁ e₁=>?_
   rw[e₁] at keep ⊢
   exact R.grow keep
  have vars:=lI (h:=s₁.heap) (fun n=>fd.scope.names.lookup n) (hvs.keep fun b o e _=>keep b o e) xs cZ (fun _=>Option.none) (fun _=>Option.none) hloc (fun _ _ e=>(Option.some_ne_none _ e.symm).elim)
  have fresh:∀c,s.heap.objs.size<=c->C.hB.get? c=Option.none:=fun c hc=>R.baseNone (ai hc)
  have lookupC:∀n,fd.scope.names.lookup n=some .cell->∃c,(callEnvC fd s.heap.objs.size f).cells.lookup n=some c:=fun n hn=>c8 _ _ _ (.inl hn)
  have ab:∀n c,(callEnvC fd s.heap.objs.size f).cells.lookup n=some c->s.heap.objs.size<=c:=fun n c hc=>Nat.le_of_lt (x.above n c (mem_of_lookup hc))
  exact⟨⟨rfl,hk,hg,hbi⟩,⟨ao.handled,At ao.depth (by decide),At ao.units (by decide)⟩,R₁,
   ⟨⟨_,x.toInCall.ns,fun y v e ky=>(vars y v e).elim (fun z=>z.2) fun z=>absurd (show some NameKind.cell=some NameKind.local from z.1.symm.trans ky) (by decide)⟩,
    fun y v e=>(vars y v e).imp (fun z=>z.1) fun ⟨z,w,h1,h2⟩=>⟨.inl z,(lookupC _ z).elim fun c hc=>⟨c,w,hc,h1▸x.cell _ c hc,h2⟩⟩,
    fun n c hc=>⟨_,x.cell n c hc⟩,R.freshNone (ai (Nat.le_refl _)),fresh _ (Nat.le_refl _),fun n c hc=>fresh c (ab n c hc),x.apart,
    fun n hn=>hn.elim (lookupC n) fun z=>absurd rfl (hfr _ (mem_of_lookup z))⟩,
   rfl,fun b z=>z.elim (fun z=>Nat.le_of_eq z.symm) fun ⟨n,z⟩=>ab n b z,keep,Nat.le_of_lt x.toInCall.ns.lt⟩
theorem FnSound.mk (O:C.Ok) {f:Addr} {o:Obj} {fd:FuncData} {body:List Stmt} {xs:List String} {sc:Scope} {j:Nat} {spec:aK} {T:ST}
  (ho:C.hB.get? f=some o) (hd:o.data=.func fd) (hcd:C.hB.CodeRec fd.code fd.qualname) (hb:fd.body=.stmts body) (hsc:fd.scope=sc) (hcl:fd.closure=[]) (hg:fd.globals=mainGlobals) (hbi:fd.builtins=builtinsNs)
  (hk:sc.kind=.function) (hfr:∀p∈sc.names,p.2≠.free) (hco:sc.isCoroutine=false) (hgen:sc.isGenerator=false)
  (hbind:∀ws:List Value,ws.length=xs.length->bindArgs fd ⟨ws,[]⟩=pure ((xs.map Str.ofString).zip ws))
  (hloc:∀x∈xs,sc.names.lookup (Str.ofString x)=some .local\/sc.names.lookup (Str.ofString x)=some .cell)
  (hT:HS C sc j body T)
  (hspec:∀vs σ Q,spec vs σ Q->vs.length=xs.length/\T (bD xs vs cZ) σ fun f _ σ'=>match f with | .ret v=>Q v σ' | .next=>Q .none σ' | _=>False):FnSound C j f spec:=by
 intro A s σ vs ws Q P E ao R hvs hs hP
 subst hsc
 refine bH (hspec vs σ Q hs) fun hlen q=>?_
 refine ik O ho hd hcd hb hcl hg hbi hk hfr hco hgen hbind hloc ao R hvs hlen fun env s₁ K=>hT.run env _ s₁ _ σ _ _ _ K.en K.ao K.rel K.fr q fun fl g m' σ' s' hf R' F' S' q'=>?_
 have S₀:=K.step S'
 cases hf with
 |next=>exact hP .none .none σ' s' .none R' S₀ q'
 |ret hv=>exact hP _ _ σ' s' hv R' S₀ q'
 |brk=>exact q'.elim
 |cont=>exact q'.elim
end
section
variable {C:Cx} {sc:Scope} {k:Nat}
noncomputable def ah (es:List Expr):Bool:=es.all cg
theorem aA {es:List Expr} {env:Env} {pos:Pos} (h:ah es=true):(backTo pos (starEach es env)).any (·.1)=false:=by
 induction es with
 |nil=>rfl
 |cons e r ih=>
  simp only[ah,List.all_cons,Bool.and_eq_true] at h
  rw[aM h.1]
  show ((false,_)::backTo pos (starEach r env)).any (·.1)=false
  rw[List.any_cons,ih h.2];rfl
theorem au {f:Value} {es:List Expr} {env:Env} {pos:Pos} {M:Model} {A:Around} {s:Shared} {Q:Args->Shared->Prop} {E:Value->Shared->Prop} (h:ah es=true)
  (hs:wpAny M A (spliced (backTo pos (starEach es env))) (fun vs s'=>Q ⟨vs,[]⟩ s') E s):wpAny M A (evalArgs f true (backTo pos (starEach es env)) []) Q E s:=by
 cases es with
 |nil=>
  unfold evalArgs
  show wpAny M A (spliced [] >>=_) Q E s
  refine wpAny_bind (wpAny_mono hs (fun vs s' h'=>?_) fun _ _ x=>x)
  refine wpAny_holding ?_
  exact wpAny_bind (wpAny_pure (wpAny_bind (wpAny_pure (wpAny_pure h'))))
 |cons e r=>
  simp only[ah,List.all_cons,Bool.and_eq_true] at h
  rw[aM h.1] at hs ⊢
  exact Calls.evalArgs_plain hs
@[reducible] noncomputable def xG (spec:aK) (Q:V->ae->Prop):List V->ae->Prop:=fun vs σ=>spec vs σ Q
@[reducible] noncomputable def bv (spec:aK) (L:LT):ET:=fun m σ Q=>L m σ (xG spec Q)
theorem HE.call (O:C.Ok) {f:String} {a:Addr} {o:Obj} {fd:FuncData} {np pos:Pos} {es:List Expr} {L:LT} {spec:aK} {j:Nat} (hf:FnSound C j a spec) (hj:j < k)
  (hn:sc.names.lookup (Str.ofString f)=some .globalImplicit) (hg:C.mg (Str.ofString f)=some (.ref a)) (ho:C.hB.get? a=some o) (hd:o.data=.func fd) (hdb:(Str.ofString f == ("__debug__":Str))=false)
  (hl:HL C sc k es L) (hp:ah es=true):HE C sc k (.Call (.Name (Str.ofString f) np) es [] pos) (bv spec L):=by
 refine⟨?_⟩;intro env A s m σ Q P E en ao R F q hP
 refine wpAny_Call_NameR (Calls.Name_function_global en.k (en.of hn) (Calls.loadGlobal_global (mg:=C.mg) (by rw[en.globals];exact O.g.keeps R.base) hg ?_) hdb)
 refine Calls.callWith_function (o:=o) (fd:=fd) (au hp (hl.run env A s m σ pos _ _ E en ao R F q fun vs ws σ₁ s₁ hv R₁ S₁ q₁=>⟨⟨R₁.base _ _ ho,hd⟩,?_⟩))
 exact wpAny_call (hf A s₁ σ₁ vs ws Q P E (ao.le hj) R₁ hv q₁ fun v w σ' s' hv' R' S' q'=>hP v w σ' s' hv' R' (S₁.trans S') q')
noncomputable def OpN (C:Cx) (k:Nat) (t:List Value->Sem Value) (op:aK):Prop:=
 ∀(A:Around) (s:Shared) (σ:ae) (vs:List V) (ws:List Value) (Q:V->ae->Prop) (P E:Value->Shared->Prop),AOk C A k->RelG C σ s->VRels C.aS s.heap vs ws->op vs σ Q->r8 C σ s Q P->
  wpAny (model C.prog C.w) A (t ws) P E s
theorem HE.builtin (O:C.Ok) {f:String} {id:String} {np pos:Pos} {es:List Expr} {L:LT} {op:aK} (hop:OpN C k (fun ws=>PySem.call (.builtin id) ws) op)
  (hn:sc.names.lookup (Str.ofString f)=some .globalImplicit) (hg:C.mg (Str.ofString f)=Option.none) (hb:C.mb (Str.ofString f)=some (.builtin id)) (hdb:(Str.ofString f == ("__debug__":Str))=false)
  (hl:HL C sc k es L) (hp:ah es=true):HE C sc k (.Call (.Name (Str.ofString f) np) es [] pos) (bv op L):=by
 refine⟨?_⟩;intro env A s m σ Q P E en ao R F q hP
 refine wpAny_Call_NameR (Calls.Name_function_global en.k (en.of hn) (Calls.loadGlobal_builtin (mg:=C.mg) (mb:=C.mb) (by rw[en.globals];exact O.g.keeps R.base) hg (by rw[en.builtins];exact O.b.keeps R.base) hb ?_) hdb)
 refine Calls.callWith_builtin (aA hp) (au hp (hl.run env A s m σ pos _ _ E en ao R F q fun vs ws σ₁ s₁ hv R₁ S₁ q₁=>?_))
 exact hop A s₁ σ₁ vs ws Q P E ao R₁ hv q₁ fun v w σ' s' hv' R' S' q'=>hP v w σ' s' hv' R' (S₁.trans S') q'
theorem d5 (O:C.Ok) {f:String} {id:String} {np pos:Pos} {es:List Expr} {L:LT} {op:aK} (hop:OpN C k (fun ws=>PySem.call (.type id) ws) op)
  (hn:sc.names.lookup (Str.ofString f)=some .globalImplicit) (hg:C.mg (Str.ofString f)=Option.none) (hb:C.mb (Str.ofString f)=some (.type id)) (hdb:(Str.ofString f == ("__debug__":Str))=false)
  (hl:HL C sc k es L) (hp:ah es=true):HE C sc k (.Call (.Name (Str.ofString f) np) es [] pos) (bv op L):=by
 refine⟨?_⟩;intro env A s m σ Q P E en ao R F q hP
 refine wpAny_Call_NameR (Calls.Name_function_global en.k (en.of hn) (Calls.loadGlobal_builtin (mg:=C.mg) (mb:=C.mb) (by rw[en.globals];exact O.g.keeps R.base) hg (by rw[en.builtins];exact O.b.keeps R.base) hb ?_) hdb)
 refine callWith_type (aA hp) (au hp (hl.run env A s m σ pos _ _ E en ao R F q fun vs ws σ₁ s₁ hv R₁ S₁ q₁=>?_))
 exact hop A s₁ σ₁ vs ws Q P E ao R₁ hv q₁ fun v w σ' s' hv' R' S' q'=>hP v w σ' s' hv' R' (S₁.trans S') q'
noncomputable def zg:List String:=["enumerate","zip","dict_itemiterator","dict_reverseitemiterator","odict_iterator","itertools.zip_longest","itertools.pairwise"]
noncomputable def FIt (I:Addr) (h:Heap):Prop:=∃o c fs,h.get? I=some o/\o.cls=.type c/\o.data=.fields fs/\zg.contains c=false
structure It (C:Cx) (k:Nat) (I:Addr) (items:List V) (inv:ae->Prop) (St:Nat->Heap->Prop):Prop where
 frame:∀i h h',St i h->(∀o,h.get? I=some o->h'.get? I=some o)->ar h h'->St i h'
 fl:∀i h,St i h->FIt I h
 next:∀(A:Around) (σ:ae) (s:Shared) (i:Nat) (v:V) (Q:Option Value->Shared->Prop) (E:Value->Shared->Prop),AOk C A k->RelG C σ s->inv σ->St i s.heap->items[i]?=some v->
  (∀w h' tk,VRel C.aS h' v w->St (i+1) h'->Heap.ExtBut I s.heap h'->Q (some w) {s with heap:=h',toks:=tk})->wpAny (model C.prog C.w) A (pyNext (.ref I)) Q E s
 done:∀(A:Around) (σ:ae) (s:Shared) (Q:Option Value->Shared->Prop) (E:Value->Shared->Prop),AOk C A k->RelG C σ s->inv σ->St items.length s.heap->
  (∀h' tk,Heap.ExtBut I s.heap h'->Q Option.none {s with heap:=h',toks:=tk})->wpAny (model C.prog C.w) A (pyNext (.ref I)) Q E s
 self:∀(A:Around) (s:Shared) (i:Nat) (Q:Value->Shared->Prop) (E:Value->Shared->Prop),St i s.heap->Q (.ref I) s->wpAny (model C.prog C.w) A (pyIter (.ref I)) Q E s
theorem FIt.of {I:Addr} {h:Heap} {c:String} {fs:Array Value} (x:∃o,h.get? I=some o/\o.cls=.type c/\o.data=.fields fs) (hn:zg.contains c=false):FIt I h:=x1_3 x fun o ho hc hd=>⟨o,c,fs,ho,hc,hd,hn⟩
theorem FIt.live {I:Addr} {h:Heap} (x:FIt I h):∃o,h.get? I=some o/\¬d4 o/\∀v,o.data≠.cell v:=
 x3_4 x fun o _ _ ho _ hd _=>⟨o,ho,fun z=>x2_1 z.2 fun _ _ e=>Data.noConfusion (hd.symm.trans e),fun _ e=>Data.noConfusion (hd.symm.trans e)⟩
theorem It.live {C:Cx} {k:Nat} {I:Addr} {items:List V} {inv:ae->Prop} {St:Nat->Heap->Prop} (x:It C k I items inv St) (i:Nat) (h:Heap) (st:St i h):∃o,h.get? I=some o/\¬d4 o/\∀v,o.data≠.cell v:=(x.fl i h st).live
theorem It.flds {C:Cx} {k:Nat} {I:Addr} {items:List V} {inv:ae->Prop} {St:Nat->Heap->Prop} (x:It C k I items inv St) (i:Nat) (h:Heap) (st:St i h) (o:Obj) (e:h.get? I=some o) (es:Array DictEntry) (ep:Nat):o.data≠.dict es ep:=
 x3_4 (x.fl i h st) fun _ _ _ ho _ hd _ z=>Data.noConfusion (hd.symm.trans ((congrArg Obj.data (Option.some.inj (ho.symm.trans e))).trans z))
theorem jI {I:Addr} {h h':Heap} {P:Obj->Prop} (x:∃o,h.get? I=some o/\¬d4 o/\P o) (hx:Heap.ExtBut I h h'):ar h h':=x1_3 x fun _ ho hT _ b o e ht=>hx b o (fun z=>hT (Option.some.inj (ho.symm.trans (z▸e))▸ht)) e
theorem It.own {C:Cx} {k:Nat} {I:Addr} {items:List V} {inv:ae->Prop} {St:Nat->Heap->Prop} (x:It C k I items inv St) (A:Around) (s:Shared) (i:Nat) (t:Expr) (w:Value) (Q:Unit->Shared->Prop) (E:Value->Shared->Prop) (st:St i s.heap) (q:Q () s):wpAny (model C.prog C.w) A (letOwnedTupleGo t (.ref I) w) Q E s:=by
 refine x3_4 (x.fl i _ st) fun o n _ ho hc _ hn=>?_
 have fin:∀vs a,wpAny (model C.prog C.w) A (if (zg.contains n&&(vs:Array Value)[0]? == some (rawInt a))=true then (do rule "for.unpacks-the-owned-tuple";updateField I 0 .none) else pure ()) Q E s:=fun vs a=>by
  rw[hn,Bool.false_and,if_neg Bool.false_ne_true];exact wpAny_pure q
 cases t<;>first | exact wpAny_pure q | skip
 all_goals
  cases w<;>first | exact wpAny_pure q | skip
  refine wpAny_bind (wpAny_load ho ?_)
  rw[hc]
  cases hd:o.data<;>first | exact wpAny_pure q | exact fin _ _
abbrev IT:=aq->ae->(List V->(ae->Prop)->ae->Prop)->Prop
structure HI (C:Cx) (sc:Scope) (k:Nat) (e:Expr) (T:IT):Prop where
 run:∀(env:Env) (A:Around) (s:Shared) (m:aq) (σ:ae) (Q:List V->(ae->Prop)->ae->Prop) (P:Value->Shared->Prop) (E:Value->Shared->Prop),
  EnvOk env sc->AOk C A k->RelG C σ s->FrameRel C env m σ s.heap->T m σ Q->
  (∀items inv I St σ' s',It C k I items inv St->St 0 s'.heap->s.heap.objs.size<=I->σ' I=Option.none->RelG C σ' s'->Step no σ σ' s.heap s'.heap->Q items inv σ'->P (.ref I) s')->
  wpAny (model C.prog C.w) A (eval e env) (fun x s₁=>wpAny (model C.prog C.w) A (pyIter x) P E s₁) E s
theorem bp {σ:ae} {s:Shared} {h':Heap} {tk:Nat} {I:Addr} (R:RelG C σ s) (hx:Heap.ExtBut I s.heap h') (hσ:σ I=Option.none) (hb:C.hB.get? I=Option.none) (hI:∃o,s.heap.get? I=some o/\¬d4 o/\∀v,o.data≠.cell v) :
  RelG C σ {s with heap:=h',toks:=tk}:=by
 refine x1_3 hI fun oI hoI hT _=>?_;clear hI
 have kt:ar s.heap h':=fun b o e ht=>hx b o (by rintro rfl;rw[hoI] at e;cases Option.some.inj e;exact hT ht) e
 exact⟨let ⟨_,_,d,e⟩:=R.rest;⟨h',tk,d,by rw[e]⟩,fun b o e=>hx b o (by rintro rfl;rw[hb] at e;cases e) (R.base b o e),
  fun a o e=>(R.view a o e).keep kt fun o' e'=>hx a o' (by rintro rfl;rw[hσ] at e;cases e) e',R.apart⟩
theorem a6 {env:Env} {m:aq} {σ:ae} {s:Shared} {h':Heap} {I:Addr} (F:FrameRel C env m σ s.heap) (hx:Heap.ExtBut I s.heap h') (hI:∃o,s.heap.get? I=some o/\¬d4 o/\∀v,o.data≠.cell v) (hL:I≠env.locals):FrameRel C env m σ h':=by
 refine x1_3 hI fun oI hoI hT hC=>?_;clear hI
 have kt:ar s.heap h':=fun b o e ht=>hx b o (by rintro rfl;rw[hoI] at e;cases Option.some.inj e;exact hT ht) e
 have kc:∀c v,s.heap.IsCell c v->h'.IsCell c v:=fun c v ⟨o,ho,hd⟩=>⟨o,hx c o (by rintro rfl;rw[hoI] at ho;cases Option.some.inj ho;exact hC _ hd) ho,hd⟩
 refine x1_2 F.ns fun mm hn hm=>?_
 refine⟨⟨mm,hn.extBut hx (Ne.symm hL),fun y u e ky=>?_⟩,fun y u e=>?_,fun n c e=>?_,F.sepL,F.baseL,F.baseC,F.dist,F.has⟩
 ·refine x1_2 (hm y u e ky) fun w h1 h2=>?_;exact⟨w,h1,h2.keep kt⟩
 ·rcases F.cel y u e with z | ⟨z,c,w',h1,h2,h3⟩
  ·exact .inl z
  ·exact .inr ⟨z,c,w',h1,kc _ _ h2,h3.keep kt⟩
 ·refine x1_1 (F.cells n c e) fun v hv=>?_;exact⟨v,kc _ _ hv⟩
inductive Tgt where
 |name (x:String)
 |tup (xs:List String)
noncomputable def bG:Tgt->V->aq->Option aq
 |.name x,v,m=>some (put m x v)
 |.tup xs,.tup vs,m=>if xs.length=vs.length then some (bD xs vs m) else Option.none
 |.tup _,_,_=>Option.none
noncomputable def Ag (loc:Bool) (env:Env) (b:Addr):Prop:=b=env.locals\/(loc=false/\∃n,env.cells.lookup n=some b)
structure HT (C:Cx) (sc:Scope) (k:Nat) (loc:Bool) (t:Expr) (g:Tgt):Prop where
 run:∀(env:Env) (A:Around) (s:Shared) (m m':aq) (σ:ae) (v:V) (w:Value) (P:Unit->Shared->Prop) (E:Value->Shared->Prop),
  EnvOk env sc->AOk C A k->RelG C σ s->FrameRel C env m σ s.heap->VRel C.aS s.heap v w->bG g v m=some m'->
  (∀s',RelG C σ s'->FrameRel C env m' σ s'.heap->Step (Ag loc env) σ σ s.heap s'.heap->P () s')->wpAny (model C.prog C.w) A (assign t env w) P E s
theorem HT.name {x:String} {pos:Pos} (hx:sc.names.lookup (Str.ofString x)=some .local):HT C sc k true (.Name (Str.ofString x) pos) (.name x):=by
 refine⟨?_⟩;intro env A s m m' σ v w P E en ao R F hv hb hP
 cases Option.some.inj hb
 exact wpAny_assign_Name (bf en R F hx hv fun s' R' F' S'=>hP s' R' F' (S'.mono fun _ _ _ z=>.inl z))
noncomputable def gm (g:Tgt) (inv:ae->Prop) (T:ST):List V->ST
 |[]=>fun m σ Q=>inv σ/\Q .next m σ
 |v::r=>fun m σ Q=>inv σ/\∃m',bG g v m=some m'/\T m' σ fun f m₁ σ₁=>match f with
  |.next=>gm g inv T r m₁ σ₁ Q
  |.cont=>gm g inv T r m₁ σ₁ Q
  |.brk=>Q .next m₁ σ₁
  |.ret u=>Q (.ret u) m₁ σ₁
@[reducible] noncomputable def z0 (g:Tgt) (T:ST) (m:aq) (Q:Fl->aq->ae->Prop):List V->(ae->Prop)->ae->Prop:=fun items inv σ=>gm g inv T items m σ Q
@[reducible] noncomputable def v9 (g:Tgt) (I:IT) (T:ST):ST:=fun m σ Q=>I m σ (z0 g T m Q)
inductive ForInv (C:Cx) (env:Env) (σ:ae) (h:Heap) (I:Addr) (items:List V) (St:Nat->Heap->Prop) (L:List V->aq->ae->Prop) (n:Nat) (s':Shared):Prop
 |mk (i:Nat) (m':aq) (σ':ae) (rest:List V) (e1:items.drop i=rest) (e2:i<=items.length) (e3:n=rest.length+1) (st:St i s'.heap) (hσ:σ' I=Option.none) (R:RelG C σ' s') (F:FrameRel C env m' σ' s'.heap)
   (S:Step (fun b=>dZ env b\/b=I) σ σ' h s'.heap) (q:L rest m' σ'):ForInv C env σ h I items St L n s'
theorem yT {target iter:Expr} {body:List Stmt} {pos:Pos} {g:Tgt} {I:IT} {T:ST} {loc:Bool} (ht:HT C sc k loc target g) (hi:HI C sc k iter I) (hb:HS C sc k body T)
  (hf:∀env x,foldedSetIterable iter env x=pure x):HS1 C sc k (.For target iter body [] pos) (v9 g I T):=by
 refine⟨?_⟩;intro env A s m σ Q P E en ao R F q hP
 rw[exec_For]
 refine wpAny_bind (wpAny_standAt ?_)
 have start:wpAny (model C.prog C.w) A (eval iter env) (fun x s₁=>wpAny (model C.prog C.w) A (pyIter x) (fun it s₂=>codeAny (model C.prog C.w) A (.forLoop target it body [] env) (fun r s'=>match r with | .ok f=>P f s' | .error e=>cameBackBy (model C.prog C.w) A env E e s') s₂) E s₁) E s:=by
  refine hi.run env A s m σ _ _ E en ao R F q fun items inv I St σ₀ s₀ hit st₀ hI hσ₀ R₀ S₀ q₀=>?_
  have F₀:=F.step R S₀
  refine x1_2 F.ns fun mm hn _=>?_
  have hIL:I≠env.locals:=fun e=>absurd hn.lt (Nat.not_lt.mpr (e▸hI))
  have hIb:C.hB.get? I=Option.none:=R.baseNone (ai hI)
  have back:∀{σ':ae} {h':Heap},Step (fun b=>dZ env b\/b=I) σ σ' s.heap h'->Step (dZ env) σ σ' s.heap h':=fun S=>
   S.mono fun b o e z=>z.elim id fun z=>absurd (Heap.lt_size e) (Nat.not_lt.mpr (z▸hI))
  refine codeAny_forLoop_any
   (ForInv C env σ s.heap I items St fun rest m' σ'=>gm g inv T rest m' σ' Q) ?_ _
   ⟨0,m,σ₀,items,by simp,by simp,rfl,st₀,hσ₀,R₀,F₀,S₀.mono fun _ _ _ z=>z.elim,q₀⟩
  rintro n s' ⟨i,m',σ',rest,e1,e2,rfl,st,hσ',R',F',S',q'⟩
  have drew:∀{h':Heap},Heap.ExtBut I s'.heap h'->s'.heap.objs.size<=h'.objs.size->Step (fun b=>dZ env b\/b=I) σ' σ' s'.heap h':=fun hx hsz=>
   .of (fun b o e _ q=>hx b o (fun z=>q (.inr z)) e) hsz fun _ a b=>absurd a b
  cases rest with
  |nil=>
   have hil:i=items.length:=jW e1 e2
   subst hil
   refine av (hit.done A σ' s' _ _ ao R' q'.1 st fun h' tk hx hsz=>?_)
   exact wpAny_execs_nil (hP .next .next m' σ' _ .next (bp (tk:=tk) R' hx hσ' hIb (hit.live _ _ st)) (a6 F' hx (hit.live _ _ st) hIL) (back (S'.trans (drew hx hsz))) q'.2)
  |cons v r=>
   obtain ⟨hinv,m₁,hm₁,q'⟩:=q'
   have hiv:items[i]?=some v:=by
    have:(items.drop i)[0]?=some v:=by rw[e1];rfl
    simpa using this
   have hilt:i < items.length:=mK e1
   refine av (hit.next A σ' s' i v _ _ ao R' hinv st hiv fun w h₁ tk₁ hv st₁ hx hsz=>?_)
   have R₁:=bp (tk:=tk₁) R' hx hσ' hIb (hit.live _ _ st)
   have F₁:=a6 F' hx (hit.live _ _ st) hIL
   have S₁:=S'.trans (drew hx hsz)
   refine hit.own A _ (i+1) target w _ _ st₁ ?_
   refine ht.run env A _ m' m₁ σ' v w _ _ en ao R₁ F₁ hv hm₁ fun s₂ R₂ F₂ S₂L=>?_
   have S₂:Step (dZ env) σ' σ' h₁ s₂.heap:=S₂L.mono fun _ _ _ z=>z.imp id fun z=>z.2
   have S₂':Step (fun b=>dZ env b\/b=I) σ' σ' h₁ s₂.heap:=S₂.mono fun _ _ _ z=>.inl z
   have st₂:St (i+1) s₂.heap:=hit.frame _ _ _ st₁ (fun o e=>S₂.keep I o e hσ' (fun z=>by
    rcases z with z | ⟨n,z⟩
    ·exact hIL z
    ·refine x2_2 (F₁.cells n I z) fun u ou hou hdu=>?_
     refine x1_3 (hit.live _ _ st₁) fun o' ho' _ hc'=>?_
     have:ou=o':=Option.some.inj (hou.symm.trans ho')
     exact hc' u (this▸hdu)) (hit.flds _ _ st₁ o e)) (S₂.tupsO F₁ R₁)
   refine hb.run env A s₂ m₁ σ' _ _ _ en ao R₂ F₂ q' fun f fl m₃ σ₃ s₃ hf R₃ F₃ S₃ q₃=>?_
   have S₃':Step (fun b=>dZ env b\/b=I) σ' σ₃ s₂.heap s₃.heap:=S₃.mono fun _ _ _ z=>.inl z
   have SS:=(S₁.trans S₂').trans S₃'
   have go:gm g inv T r m₃ σ₃ Q->∃k',k' < (v::r).length+1/\ForInv C env σ s.heap I items St (fun rest m' σ'=>gm g inv T rest m' σ' Q) k' s₃:=fun q₃=>by
    refine⟨r.length+1,Nat.lt_succ_self _,i+1,m₃,σ₃,r,?_,hilt,rfl,?_,?_,R₃,F₃,SS,q₃⟩
    ·rw[<-List.tail_drop,e1];rfl
    ·refine hit.frame _ _ _ st₂ (fun o e=>S₃.keep I o e hσ' (fun z=>?_) (hit.flds _ _ st₂ o e)) (S₃.tupsO F₂ R₂)
     rcases z with z | ⟨n,z⟩
     ·exact hIL z
     ·refine x2_2 (F₂.cells n I z) fun u ou hou hdu=>?_
      refine x1_3 (hit.live _ _ st₂) fun o' ho' _ hc'=>?_
      have:ou=o':=Option.some.inj (hou.symm.trans ho')
      exact hc' u (this▸hdu)
    ·cases z:σ₃ I with
     |none=>rfl
     |some o=>
      refine x1_2 (hit.live _ _ st₂) fun o' ho' _=>?_
      exact absurd (Heap.lt_size ho') (Nat.not_lt.mpr (S₃.new I hσ' (by rw[z];simp)))
   cases hf with
   |next=>exact go q₃
   |cont=>exact go q₃
   |brk=>exact hP .next .next m₃ σ₃ s₃ .next R₃ F₃ (back SS) q₃
   |ret hv=>exact hP _ _ m₃ σ₃ s₃ (.ret hv) R₃ F₃ (back SS) q₃
 refine wpAny_bind (wpAny_mono start (fun x s₁ h₁=>wpAny_bind (wpAny_of_eq (hf env x) (wpAny_bind (wpAny_standAt (wpAny_bind (wpAny_holding (wpAny_mono h₁ (fun it s₂ h₂=>wpAny_runOwn h₂) fun _ _ h'=>h'))))))) fun _ _ h'=>h')
end
noncomputable def Hd (A:Around) (h:Heap):Prop:=A.handled=none\/∃e o vs,A.handled=some (.ref e)/\h.get? e=some o/\o.data=.fields vs/\vs[2]?=some .none
section
variable {prog:Program} {w:World} {A:Around} {E:Value->Shared->Prop} {s:Shared}
theorem gR:entryFor table "proto.unchain"=some Builtin.«proto.unchain»:=entryFor_of_fast (by kernel_rfl)
theorem gN:plainId "proto.unchain"=true:=by decide +kernel
theorem jf {e:Addr} {x:Value} {o:Obj} {vs:Array Value} {Q:Value->Shared->Prop} (ho:s.heap.get? e=some o) (hd:o.data=.fields vs) (h2:vs[2]?=some .none) (h:Q .none s) :
  wpAny (model prog w) A (runValue (.builtin "proto.unchain" ⟨[x,.ref e,.ref e,.bool false],[]⟩)) Q E s:=by
 refine wpAny_runValue (codeAny_builtin gR ?_)
 rw[Around.under_plainId gN _]
 unfold Builtin.«proto.unchain»
 dsimp only
 refine wpAny_bind (wpAny_field ho hd h2 ?_)
 rw[if_pos (by decide)]
 exact wpAny_pure h
theorem so {Q:Option Value->Shared->Prop} {P:Fin->Shared->Prop} (hh:Hd A s.heap) (h:∀h',(∀b o,s.heap.get? b=some o->h'.get? b=some o)->Q none {s with heap:=h'}) :
  wpAny (model prog w) A.in1 (do
    let e <-newExc (Value.type "StopIteration") []
    raiseNew e) P (fun e s'=>wpAny (model prog w) A (do
     let b <-isInstance e (Value.type "StopIteration")
     if b=true then pure none else throw e) Q E s') s:=by
 refine wpAny_bind ?_
 simp only[newExc,newTuple]
 refine wpAny_bind (wpAny_newObj_type ?_ (by size_fits))
 refine wpAny_bind (m:=firstArgMember _ _) (wpAny_of_eq (a:=Value.none) (by first | rfl | (simp only[firstArgMember];rfl)) ?_)
 refine wpAny_newObj_type ?_ (by size_fits)
 unfold raiseNew
 refine wpAny_bind (wpAny_handled ?_)
 rcases hh with hh | ⟨e,o,vs,hh,ho,hd,h2⟩
 ·rw[show A.in1.handled=none from hh]
  refine wpAny_bind (wpAny_pure (wpAny_throw ?_))
  refine wpAny_bind (wpAny_isInstance (T:="StopIteration") (b:=true) ⟨_,Heap.get?_push_size _ rfl,rfl⟩ isSubtype_stop ?_)
  exact wpAny_pure (h _ fun b o e=>Heap.get?_push_of_some _ (Heap.get?_push_of_some _ e))
 ·rw[show A.in1.handled=some (.ref e) from hh]
  dsimp only
  have hlt:=Heap.lt_size ho
  have hne:e≠s.heap.objs.size+1:=Nat.ne_of_lt (Nat.lt_succ_of_lt hlt)
  rw[Heap.size_push]
  rw[if_pos (by simp[hne])]
  have ho2:=Heap.get?_push_of_some (h:=s.heap.push {cls:=.type "tuple",dict:=none,data:=.seq ([]:List Value).toArray}) {cls:=.type "StopIteration",dict:=none,data:=.fields (#[.ref s.heap.objs.size,.none,.none,.none,.bool false,.none]++ownMembersOf (.type "StopIteration") [])} (Heap.get?_push_of_some _ ho)
  refine wpAny_bind (wpAny_holding (jf ho2 hd h2 ?_))
  have hn:=Heap.get?_push_size (s.heap.push {cls:=.type "tuple",dict:=none,data:=.seq ([]:List Value).toArray}) (o:={cls:=.type "StopIteration",dict:=none,data:=.fields (#[.ref s.heap.objs.size,.none,.none,.none,.bool false,.none]++ownMembersOf (.type "StopIteration") [])}) rfl
  rw[Heap.size_push] at hn
  refine wpAny_bind (show wpAny _ _ (setField (.ref (s.heap.objs.size+1)) 2 (.ref e)) _ _ _ from wpAny_setField hn rfl (by rw[Array.size_append];show 2 < 6+_;exact Nat.le_add_left _ _) (wpAny_throw ?_))
  have hd3:=Obj.data_mapFields (o:={cls:=.type "StopIteration",dict:=none,data:=.fields (#[.ref s.heap.objs.size,.none,.none,.none,.bool false,.none]++ownMembersOf (.type "StopIteration") [])}) rfl (·.setIfInBounds 2 (Value.ref e))
  have hn3:=Heap.get?_update_self (Obj.mapFields (·.setIfInBounds 2 (Value.ref e))) hn (Obj.isFreed_of_fields hd3)
  refine wpAny_bind (wpAny_isInstance (T:="StopIteration") (b:=true) ⟨_,hn3,Obj.cls_mapFields _ _⟩ isSubtype_stop ?_)
  refine wpAny_pure (h _ fun b o e=>?_)
  rw[Heap.get?_update_other _ _ (Ne.symm (Nat.ne_of_lt (Nat.lt_succ_of_lt (Heap.lt_size e))))]
  exact Heap.get?_push_of_some _ (Heap.get?_push_of_some _ e)
theorem nH {it l:Addr} {i:Nat} {items:Array Value} {Q:Option Value->Shared->Prop} (hh:Hd A s.heap)
  (hit:s.heap.IsListIter it l i) (hl:s.heap.IsList l items) (hx:items[i]?=none) (hie:∀e,A.handled=some (.ref e)->e≠it)
  (hQ:∀h',Heap.ExtBut it s.heap h'->Q none {s with heap:=h'}):wpAny (model prog w) A (pyNext (.ref it)) Q E s:=by
 refine x1_3 (id hit) fun o ho hc hd=>?_
 obtain ⟨ol,hol,_,nl,hdl⟩:=hl
 unfold pyNext
 refine wpAny_bind (wpAny_attempt (wpAny_callSpecial?_slot (name:=Str.ofString "__next__") hit.typeIs slot_listiter_next
  (wpAny_call_entry slot_listiter_next hit.typeIs entry_listiter_next ?_ (args_listiter_next _))))
 show wpAny _ _ (field (.ref it) 0 >>=_) _ _ s
 refine wpAny_bind (wpAny_field ho hd (x:=.ref l) rfl ?_)
 show wpAny _ _ (if (Value.ref l == Value.none)=true then _ else _) _ _ s
 rw[if_neg (show ¬((Value.ref l == Value.none)=true) from Bool.false_ne_true)]
 show wpAny _ _ (field (.ref it) 1 >>=_) _ _ s
 refine wpAny_bind (wpAny_field ho hd (x:=.int i 0) rfl ?_)
 show wpAny _ _ (seqItems? (.ref l) >>=_) _ _ s
 refine wpAny_bind (wpAny_seqItems hol hdl ?_)
 simp only[Int.toNat_natCast,hx]
 refine wpAny_bind (wpAny_rule (wpAny_bind (wpAny_setField ho hd (by simp) ?_)))
 refine so ?_ fun h' hk=>hQ h' fun b o' hb e=>hk b o' ((Heap.SameBut.update s.heap it _).extBut b o' hb e)
 rcases hh with hh | ⟨e,o',vs,hh,ho',hd',h2⟩
 ·exact .inl hh
 ·exact .inr ⟨e,o',vs,hh,(Heap.get?_update_other _ _ (Ne.symm (hie e hh))).trans ho',hd',h2⟩
theorem fC {it t:Addr} {i:Nat} {items:Array Value} {Q:Option Value->Shared->Prop} (hh:Hd A s.heap)
  (hit:s.heap.IsTupleIter it t i) (ht:s.heap.IsTuple t items) (hx:items[i]?=none) (hie:∀e,A.handled=some (.ref e)->e≠it)
  (hQ:∀h',Heap.ExtBut it s.heap h'->Q none {s with heap:=h'}):wpAny (model prog w) A (pyNext (.ref it)) Q E s:=by
 refine x1_3 (id hit) fun o ho hc hd=>?_
 obtain ⟨ol,hol,_,nl,hdl⟩:=ht
 unfold pyNext
 refine wpAny_bind (wpAny_attempt (wpAny_callSpecial?_slot (name:=Str.ofString "__next__") hit.typeIs F.slot_tuple_iterator_next
  (wpAny_call_entry F.slot_tuple_iterator_next hit.typeIs F.entry_tuple_iterator_next ?_ (F.args_tuple_iterator_next_1 _))))
 show wpAny _ _ (field (.ref it) 0 >>=_) _ _ s
 refine wpAny_bind (wpAny_field ho hd (x:=.ref t) rfl ?_)
 show wpAny _ _ (if (Value.ref t == Value.none)=true then _ else _) _ _ s
 rw[if_neg (show ¬((Value.ref t == Value.none)=true) from Bool.false_ne_true)]
 show wpAny _ _ (field (.ref it) 1 >>=_) _ _ s
 refine wpAny_bind (wpAny_field ho hd (x:=.int i 0) rfl ?_)
 show wpAny _ _ (seqItems? (.ref t) >>=_) _ _ s
 refine wpAny_bind (wpAny_seqItems hol hdl ?_)
 simp only[Int.toNat_natCast,hx]
 refine wpAny_bind (wpAny_rule (wpAny_bind (wpAny_setField ho hd (by simp) ?_)))
 refine so ?_ fun h' hk=>hQ h' fun b o' hb e=>hk b o' ((Heap.SameBut.update s.heap it _).extBut b o' hb e)
 rcases hh with hh | ⟨e,o',vs,hh,ho',hd',h2⟩
 ·exact .inl hh
 ·exact .inr ⟨e,o',vs,hh,(Heap.get?_update_other _ _ (Ne.symm (hie e hh))).trans ho',hd',h2⟩
theorem rU {env:Env} {elts:List Expr} {x1:Nat} {pos:Pos} {t:Addr} {items:Array Value} {Q:Unit->Shared->Prop} (hh:Hd A s.heap) (ht:s.heap.IsTuple t items)
  (hn:(assignEach elts env).length=items.size) (hstar:(assignEach elts env).findIdx? (·.1)=none)
  (h:∀h',Heap.ExtBut s.heap.objs.size s.heap h'->wpAny (model prog w) A (assignInOrder ((assignEach elts env).map (·.2)) items.toList) Q E {s with heap:=h'}) :
  wpAny (model prog w) A (assign (.Tuple elts x1 pos) env (.ref t)) Q E s:=by
 rw[arm_assign_Tuple]
 refine wpAny_bind (wpAny_standAt ?_)
 unfold unpack
 rw[hn,hstar]
 refine wpAny_bind (wpAny_holding ?_)
 have hlt:t≠s.heap.objs.size:=by refine x1_2 ht fun o ho _=>?_;clear ht;exact Nat.ne_of_lt (Heap.lt_size ho)
 unfold unpackItems
 refine wpAny_bind ?_
 unfold notIterableAtAll
 refine wpAny_bind (wpAny_specialOf ht.typeIs F.slot_tuple_iter.lookup ?_)
 refine wpAny_pure ?_
 simp only[Bool.false_eq_true,if_false]
 refine wpAny_bind (wpAny_holding (wpAny_pyIter_tuple ht ?_))
 refine wpAny_bind (wpAny_holding (wpAny_draw_tuple hlt items.size 0 _ _ ⟨_,Heap.get?_push_size _ rfl,rfl,rfl⟩ (ht.push _) (by exact gY fun hg=>lN [(items.size)] 0x100101061 rfl hg) fun h₁ hit₁ hs₁=>?_))
 have hall:List.take items.size (List.drop 0 items.toList)=items.toList:=by
  rw[List.drop_zero];exact List.take_of_length_le (by simp)
 rw[hall]
 rw[if_neg (by simp)]
 have ht₁:h₁.IsTuple t items:=(ht.push _).extBut hs₁.extBut hlt
 have hd₁:Hd A h₁:=by
  rcases hh with hh | ⟨e,o',vs,hh,ho',hd',h2⟩
  ·exact .inl hh
  ·exact .inr ⟨e,o',vs,hh,hs₁.extBut e o' (Nat.ne_of_lt (Heap.lt_size ho')) (Heap.get?_push_of_some _ ho'),hd',h2⟩
 refine wpAny_bind (wpAny_holding (fC hd₁ hit₁ ht₁ (by simp) (fun e he=>?_) fun h₂ he₂=>?_))
 ·rcases hh with hh | ⟨e',o',vs,hh,ho',hd',h2⟩
  ·rw[hh] at he;cases he
  ·rw[hh] at he;cases Option.some.inj he;exact Nat.ne_of_lt (Heap.lt_size ho')
 simp only[Option.isSome_none,Bool.false_eq_true,if_false]
 exact wpAny_pure (h h₂ fun b o hb e=>he₂ b o hb (hs₁.extBut b o hb (Heap.get?_push_of_some _ e)))
end
set_option tactic.hygienic true
section
variable {C:Cx} {sc:Scope} {k:Nat}
theorem AOk.hd {A:Around} {σ:ae} {s:Shared} (ao:AOk C A k) (O:C.Ok) (R:RelG C σ s):Hd A s.heap:=by
 cases z:C.held with
 |none=>exact .inl (ao.none z)
 |some e=>
  refine x2_3 (O.heldOk e z) fun o vs h1 h2 h3=>?_
  exact .inr ⟨e,o,vs,by rw[ao.handled,z];rfl,R.base _ _ h1,h2,h3⟩
theorem AOk.ne {A:Around} {σ:ae} {s:Shared} {I:Addr} {c:String} {a b:Value} (ao:AOk C A k) (O:C.Ok) (R:RelG C σ s) (x:∃o,s.heap.get? I=some o/\o.cls=.type c/\o.data=.fields #[a,b]):∀e,A.handled=some (.ref e)->e≠I:=by
 rintro e he rfl
 rw[ao.handled] at he
 cases z:C.held with
 |none=>rw[z] at he;cases he
 |some e'=>
  rw[z] at he;cases Option.some.inj he
  refine x2_3 (O.heldOk _ z) fun o vs h1 h2 h3=>?_
  refine x1_3 x fun o' hI _ hd=>?_
  have:=R.base _ _ h1
  rw[hI] at this;cases Option.some.inj this
  rw[hd] at h2;cases h2;cases h3
theorem rE (O:C.Ok) (I a:Addr) (xs:List V):It C k I xs (fun σ=>σ a=some (.list xs)) (fun i h=>h.IsListIter I a i) where
 frame:=fun i h h' st kI _=>st.at kI
 fl:=fun i h st=>.of st (by decide)
 next:=fun A σ s i v Q E ao R inv st hv hQ=>by
  obtain ⟨_,ws,h1,h2⟩:=R.view a _ inv
  refine x1_2 (h2.get hv) fun w hw hr=>?_
  exact wpAny_pyNext_list_item st h1.isList (x:=w) (by simpa using hw) fun h' st' hs'=>hQ w h' s.toks (hr.keep (jI (FIt.of st (by decide)).live hs'.extBut)) st' hs'.extBut
 done:=fun A σ s Q E ao R inv st hQ=>by
  obtain ⟨_,ws,h1,h2⟩:=R.view a _ inv
  exact nH (ao.hd O R) st h1.isList (by have:=h2.length;simp[this]) (ao.ne O R st) fun h' hx=>hQ h' s.toks hx
 self:=fun A s i Q E st q=>wpAny_pyIter_listiter st q
theorem jh {h h':Heap} {a:Addr} {xs:Array Value} (k:ar h h') (x:h.IsTuple a xs):h'.IsTuple a xs:=let ⟨o,ho,hc,n,r⟩:=x;⟨o,k a o ho ⟨hc,_,n,r⟩,hc,n,r⟩
theorem uf (O:C.Ok) (I a:Addr) (vs:List V) (ws:List Value):It C k I vs (fun _=>True) (fun i h=>h.IsTupleIter I a i/\h.IsTuple a ws.toArray/\VRels C.aS h vs ws) where
 frame:=fun i h h' st kI kt=>⟨st.1.at kI,jh kt st.2.1,st.2.2.keep kt⟩
 fl:=fun i h st=>.of st.1 (by decide)
 next:=fun A σ s i v Q E ao R inv st hv hQ=>by
  refine x1_2 (st.2.2.get hv) fun w hw hr=>?_
  have kt:∀h',Heap.ExtBut I s.heap h'->ar s.heap h':=fun h' hs'=>jI (FIt.of st.1 (by decide)).live hs'
  exact wpAny_pyNext_tuple_item st.1 st.2.1 (x:=w) (by simpa using hw) fun h' st' hs'=>hQ w h' s.toks (hr.keep (kt h' hs'.extBut)) ⟨st',jh (kt h' hs'.extBut) st.2.1,st.2.2.keep (kt h' hs'.extBut)⟩ hs'.extBut
 done:=fun A σ s Q E ao R inv st hQ=>fC (ao.hd O R) st.1 st.2.1 (by have:=st.2.2.length;simp[this]) (ao.ne O R st.1) fun h' hx=>hQ h' s.toks hx
 self:=fun A s i Q E st q=>wpAny_pyIter_tupleiter st.1 q
noncomputable def eV (x:Str):List V:=x.cps.toList.map fun c=>.str ⟨#[c]⟩
theorem p8 (hz:C.held=none) (I:Addr) (cls:String) (x:Str) (t:Tok) (hcls:cls="str_ascii_iterator"\/cls="str_iterator"):It C k I (eV x) (fun _=>True) (fun i h=>h.IsStrIter I cls x t i) where
 frame:=fun i h h' ⟨o,ho,r⟩ kI _=>⟨o,kI o ho,r⟩
 fl:=fun i h st=>.of st (by rcases hcls with rfl | rfl<;>decide)
 next:=fun A σ s i v Q E ao R inv st hv hQ=>by
  unfold eV at hv
  rw[List.getElem?_map] at hv
  obtain ⟨c,hc,rfl⟩:=Option.map_eq_some_iff.mp hv
  rcases hcls with rfl | rfl
  ·exact wpAny_pyNext_ascii_item st (c:=c) (by simpa using hc) fun h' st' hs'=>hQ _ h' _ (.str _ _) st' hs'.extBut
  ·exact wpAny_pyNext_wide_item st (c:=c) (by simpa using hc) fun h' st' hs'=>hQ _ h' _ (.str _ _) st' hs'.extBut
 done:=fun A σ s Q E ao R inv st hQ=>by
  rcases hcls with rfl | rfl
  ·exact wpAny_pyNext_ascii_end (ao.none hz) st (by simp[eV]) fun h' hx=>hQ h' s.toks hx
  ·exact wpAny_pyNext_wide_end (ao.none hz) st (by simp[eV]) fun h' hx=>hQ h' s.toks hx
 self:=fun A s i Q E st q=>by
  rcases hcls with rfl | rfl
  ·exact wpAny_pyIter_striter_ascii st q
  ·exact wpAny_pyIter_striter_wide st q
theorem rG (hz:C.held=none) (I d:Addr) (kvs:List (Str×V)) (ep:Nat):It C k I (kvs.map fun p=>.str p.1) (fun σ=>σ d=some (.dict kvs ep)) (fun i h=>h.IsKeyIter I d i kvs.length ep) where
 frame:=fun i h h' st kI _=>st.at kI
 fl:=fun i h st=>.of st (by decide)
 next:=fun A σ s i v Q E ao R inv st hv hQ=>by
  obtain ⟨_,kws,h1,h2⟩:=R.view d _ inv
  rw[List.getElem?_map] at hv
  obtain ⟨⟨key,u⟩,hku,rfl⟩:=Option.map_eq_some_iff.mp hv
  refine x1_2 (PRel.get h2 hku) fun w hw _=>?_
  have st':s.heap.IsKeyIter I d i kws.length ep:=by rw[<-h2.length];exact st
  refine wpAny_pyNext_dict_item st' h1 hw fun kv h' hkey hit' hs'=>hQ kv h' s.toks ?_ (by rw[h2.length];exact hit') hs'.extBut
  cases kv with
  |str y t=>
   have:y=key:=by simpa [strKind,Value.isStrOf] using hkey
   subst this;exact .str _ _
  |_=>simp[strKind,Value.isStrOf] at hkey
 done:=fun A σ s Q E ao R inv st hQ=>by
  obtain ⟨_,kws,h1,h2⟩:=R.view d _ inv
  have e:(kvs.map fun p:Str×V=>V.str p.1).length=kws.length:=by rw[List.length_map,h2.length]
  have st':s.heap.IsKeyIter I d kws.length kws.length ep:=by rw[<-e];simpa using st
  exact wpAny_pyNext_dict_end (ao.none hz) st' h1 (by simp) fun h' hx=>hQ h' s.toks hx
 self:=fun A s i Q E st q=>wpAny_pyIter_keyiter st q
noncomputable def aF (a:Int) (n:Nat):List V:=(List.range n).map fun (i:Nat)=>.int (a+i)
theorem mD (hz:C.held=none) (I:Addr) (a d:Int) (n:Nat) (g:Nat->Int) (hg:∀i,g i=a+(i:Nat)*d):It C k I ((List.range n).map fun (i:Nat)=>V.int (g i)) (fun _=>True) (fun i h=>IsRangeIter h I (a+(i:Nat)*d) ((n:Int)-(i:Nat)) d) where
 frame:=fun i h h' st kI _=>kI _ st
 fl:=fun i h st=>⟨_,_,_,st,rfl,rfl,by decide⟩
 next:=fun A σ s i v Q E ao R inv st hv hQ=>by
  rw[List.getElem?_map] at hv
  obtain ⟨j,hj,rfl⟩:=Option.map_eq_some_iff.mp hv
  refine x1_1 (List.getElem?_eq_some_iff.mp hj) fun hlt hji=>?_
  rw[List.getElem_range] at hji
  subst hji
  refine wpAny_pyNext_range_item st (Int.sub_pos_of_lt (Int.ofNat_lt.mpr (Nat.lt_of_lt_of_eq hlt List.length_range))) fun h' hit' hs'=>?_
  have e1:a+((i+1:Nat):Int)*d=a+(i:Int)*d+d:=by show a+((i:Int)+1)*d=_;rw[Int.add_mul,Int.one_mul,Int.add_assoc]
  have e2:(n:Int)-((i+1:Nat):Int)=(n:Int)-(i:Int)-1:=by rw[Int.sub_sub];rfl
  refine hQ _ h' _ ?_ (by rw[e1,e2];exact hit') hs'.extBut
  rw[<-hg];exact .int _ _
 done:=fun A σ s Q E ao R inv st hQ=>wpAny_pyNext_range_end (ao.none hz) st (by simp) fun h' hx=>hQ h' s.toks hx
 self:=fun A s i Q E st q=>wpAny_pyIter_rangeiter st q
theorem p9 (hz:C.held=none) (I:Addr) (a:Int) (n:Nat):It C k I (aF a n) (fun _=>True) (fun i h=>IsRangeIter h I (a+(i:Nat)*1) ((n:Int)-(i:Nat)) 1):=mD hz I a 1 n (fun i=>a+(i:Nat)) fun i=>by rw[Int.mul_one]
noncomputable def fj (a:Addr) (σ:ae) (Q:List V->(ae->Prop)->ae->Prop) (o:Option AObj):Prop:=match o with
 |some (.list xs)=>Q xs (fun σ=>σ a=some (.list xs)) σ
 |some (.dict kvs ep)=>Q (kvs.map fun p=>.str p.1) (fun σ=>σ a=some (.dict kvs ep)) σ
 |_=>False
noncomputable def dq (ns:List Int):V->ae->(List V->(ae->Prop)->ae->Prop)->Prop
 |.str x,σ,Q=>Q (eV x) (fun _=>True) σ
 |.tup vs,σ,Q=>Q vs (fun _=>True) σ
 |.ref a,σ,Q=>fj a σ Q (σ a)
 |_,_,_=>False
@[reducible] noncomputable def wR (ns:List Int) (Q:List V->(ae->Prop)->ae->Prop):V->ae->Prop:=fun v σ=>dq ns v σ Q
@[reducible] noncomputable def AM (ns:List Int) (T:ET):IT:=fun m σ Q=>T m σ (wR ns Q)
theorem HI.of (O:C.Ok) (hz:C.held=none) {e:Expr} {T:ET} (he:HE C sc k e T):HI C sc k e (AM C.ns T):=by
 refine⟨?_⟩;intro env A s m σ Q P E en ao R F q hP
 refine he.run env A s m σ _ _ E en ao R F q fun v w σ₁ s₁ hv R₁ S₁ q₁=>?_
 have fr:s.heap.objs.size<=s₁.heap.objs.size:=S₁.size
 have hn:=R₁.freshNone (aH s₁.heap)
 have Rp:∀o,RelG C σ₁ {s₁ with heap:=s₁.heap.push o}:=fun o=>R₁.grow (tk:=s₁.toks) ay
 have Sp:∀o,Step no σ σ₁ s.heap (s₁.heap.push o):=fun o=>S₁.trans .push
 cases hv with
 |none=>exact q₁.elim
 |bool=>exact q₁.elim
 |int=>exact q₁.elim
 |ty=>exact q₁.elim
 |str x t=>
  cases ha:x.cps.all (· < 128)
  ·exact wpAny_pyIter_wide ha (hP _ _ _ _ σ₁ _ (p8 hz _ "str_iterator" x t (.inr rfl)) ⟨_,Heap.get?_push_size _ rfl,rfl,rfl⟩ fr hn (Rp _) (Sp _) q₁)
  ·exact wpAny_pyIter_ascii ha (hP _ _ _ _ σ₁ _ (p8 hz _ "str_ascii_iterator" x t (.inl rfl)) ⟨_,Heap.get?_push_size _ rfl,rfl,rfl⟩ fr hn (Rp _) (Sp _) q₁)
 |script=>exact q₁.elim
 |tup ht hvs=>
  exact wpAny_pyIter_tuple ht (hP _ _ _ _ σ₁ _ (uf O _ _ _ _) ⟨⟨_,Heap.get?_push_size _ rfl,rfl,rfl⟩,ht.push _,hvs.keep fun _ _ e _=>ay _ _ e⟩ fr hn (Rp _) (Sp _) q₁)
 |ref a=>
  replace q₁:fj a σ₁ Q (σ₁ a):=q₁
  cases hx:σ₁ a with
  |none=>rw[hx] at q₁;exact False.elim q₁
  |some o=>
  rw[hx] at q₁
  cases o<;>first | exact False.elim q₁ | skip
  ·rename_i xs
   obtain ⟨_,ws,h1,h2⟩:=R₁.view a _ hx
   exact wpAny_pyIter_list h1.isList (hP _ _ _ _ σ₁ _ (rE O _ a xs) ⟨_,Heap.get?_push_size _ rfl,rfl,rfl⟩ fr hn (Rp _) (Sp _) q₁)
  ·rename_i kvs ep
   obtain ⟨_,kws,h1,h2⟩:=R₁.view a _ hx
   refine wpAny_pyIter_dict (O.noMods (R₁.apart a (by rw[hx];simp))) h1 (hP _ _ _ _ σ₁ _ (rG hz _ a kvs ep) ⟨_,Heap.get?_push_size _ rfl,rfl,by rw[<-h2.length];rfl⟩ fr hn (Rp _) (Sp _) q₁)
@[reducible] noncomputable def wW (T:ET):IT:=fun m σ Q=>T m σ fun v σ'=>∃a xs,v=.ref a/\σ' a=some (.list xs)/\Q xs (fun σ=>σ a=some (.list xs)) σ'
noncomputable def cN:List V->ae->(List V->(ae->Prop)->ae->Prop)->Prop
 |v::r,σ,Q=>isI v fun a=>match r with
  |[]=>(-(2 ^ 62)<=a/\a < 2 ^ 62)/\Q (aF 0 a.toNat) (fun _=>True) σ
  |u::r=>on1 (u::r) fun u=>isI u fun b=>(-(2 ^ 62)<=a/\a < 2 ^ 62/\-(2 ^ 62)<=b/\b < 2 ^ 62)/\Q (aF a (b-a).toNat) (fun _=>True) σ
 |_,_,_=>False
@[reducible] noncomputable def tB (Q:List V->(ae->Prop)->ae->Prop):List V->ae->Prop:=fun vs σ=>cN vs σ Q
@[reducible] noncomputable def lr (L:LT):IT:=fun m σ Q=>L m σ (tB Q)
theorem AW (a b:Int):Builtin.Range.rangeSize a b 1=((b-a).toNat:Int):=by
 rw[rangeSize_one]
 split
 ·rename_i h;exact (Int.toNat_of_nonneg (Int.le_of_lt (Int.sub_pos_of_lt h))).symm
 ·rename_i h;rw[Int.toNat_of_nonpos (Int.sub_nonpos_of_le (Int.not_lt.mp h))];rfl
theorem qH (O:C.Ok) (hz:C.held=none) {np pos:Pos} {es:List Expr} {L:LT} (hl:HL C sc k es L) (hp:ah es=true)
  (hn:sc.names.lookup (Str.ofString "range")=some .globalImplicit) (hg:C.mg (Str.ofString "range")=Option.none) (hb:C.mb (Str.ofString "range")=some (.type "range")) :
  HI C sc k (.Call (.Name (Str.ofString "range") np) es [] pos) (lr L):=by
 refine⟨?_⟩;intro env A s m σ Q P E en ao R F q hP
 refine wpAny_Call_NameR (Calls.Name_function_global en.k (en.of hn) (Calls.loadGlobal_builtin (mg:=C.mg) (mb:=C.mb) (by rw[en.globals];exact O.g.keeps R.base) hg (by rw[en.builtins];exact O.b.keeps R.base) hb ?_) (by decide))
 refine callWith_type (aA hp) (au hp (hl.run env A s m σ pos _ _ E en ao R F q fun vs ws σ₁ s₁ hv R₁ S₁ q₁=>?_))
 have fr:s.heap.objs.size<=s₁.heap.objs.size+1:=Nat.le_succ_of_le S₁.size
 have hσ:σ₁ (s₁.heap.objs.size+1)=Option.none:=R₁.freshNone (ai (Nat.le_succ _))
 have go:∀(a b:Int) (o:Obj) (tk:Nat) (t u v:Tok),-(2 ^ 62)<=a->a < 2 ^ 62->-(2 ^ 62)<=b->b < 2 ^ 62->o={cls:=.type "range",data:=.fields #[.int a t,.int b u,.int 1 v]}->Q (aF a (b-a).toNat) (fun _=>True) σ₁->
   wpAny (model C.prog C.w) A (pyIter (.ref s₁.heap.objs.size)) P E {s₁ with heap:=s₁.heap.push o,toks:=tk}:=by
  intro a b o tk t u v h1 h2 h3 h4 ho q₁
  refine wpAny_pyIter_range (ho▸IsRange.new ..) (small_one h1 h2 h3 h4) ?_
  rw[AW,Heap.size_push]
  refine hP _ _ _ _ σ₁ _ (p9 hz (s₁.heap.objs.size+1) a (b-a).toNat) ?_ fr hσ (R₁.grow fun _ _ e=>ay _ _ (ay _ _ e)) ((S₁.trans .push).trans .push) q₁
  show Heap.get? _ _=some {cls:=.type "range_iterator",data:=.fields #[rawInt (a+((0:Nat):Int)*1),rawInt ((b-a).toNat-((0:Nat):Int)),rawInt 1]}
  rw[Int.mul_one,Int.natCast_zero,Int.add_zero,Int.sub_zero,<-Heap.size_push]
  exact Heap.get?_push_size _ rfl
 show wpAny _ A (PySem.call (.type "range") ([]++ws)) _ _ _
 rw[List.nil_append]
 cases vs with
 |nil=>exact False.elim q₁
 |cons v0 r=>
  obtain ⟨n,rfl,q₂⟩:=isI.elim q₁
  obtain ⟨w,ws,rfl,h1,hr⟩:=hv.invC
  obtain ⟨t,rfl⟩:=h1.invInt
  cases r with
  |nil=>
   rw[hr.inv0]
   refine call_range_1 (go 0 _ _ _ _ _ _ (by decide) (by decide) q₂.1.1 q₂.1.2 rfl ?_)
   rw[Int.sub_zero];exact q₂.2
  |cons u r=>
   obtain ⟨u,e,q₃⟩:=on1.elim q₂
   obtain ⟨w,ws,rfl,h2,h4⟩:=hr.invC
   injection e with e1 e2
   subst e1 e2
   obtain ⟨b,rfl,q₁⟩:=isI.elim q₃
   obtain ⟨t,rfl⟩:=h2.invInt
   rw[h4.inv0]
   exact call_range_2 (go _ _ _ _ _ _ _ q₁.1.1 q₁.1.2.1 q₁.1.2.2.1 q₁.1.2.2.2 rfl q₁.2)
end
set_option tactic.hygienic false
noncomputable def gK (cells:List (Str×Addr)):List (Str×NameKind)->List (Str×Addr)->List (Str×Addr)
 |[],acc=>acc
 |(n,q)::r,acc=>if q == .free then gK cells r ((n,(cells.lookup n).getD 0)::acc) else gK cells r acc
theorem gF {env:Env} {scope:Scope} (h:∀p∈scope.names,p.2=.free->∃c,env.cells.lookup p.1=some c):closureFor scope env=pure (gK env.cells scope.names []):=by
 unfold closureFor
 have key:∀(l:List (Str×NameKind)) (acc:List (Str×Addr)),(∀p∈l,p.2=.free->∃c,env.cells.lookup p.1=some c)->
   (forIn l acc fun p r=>(if (p.2 == NameKind.free)=true then do let c <-cellOf env p.1;pure (ForInStep.yield ((p.1,c)::r)) else pure (ForInStep.yield r):Sem (ForInStep (List (Str×Addr)))))=pure (gK env.cells l acc):=by
  intro l
  induction l with
  |nil=>intro acc _;rfl
  |cons p r ih=>
   intro acc hp
   rw[List.forIn_cons]
   obtain ⟨n,q⟩:=p
   unfold gK
   cases hq:(q == NameKind.free) with
   |true=>
    obtain ⟨c,hc⟩:=hp (n,q) (.head _) (by simpa using hq)
    simp only[cellOf,hc,if_true,pure_bind,Option.getD_some]
    exact ih _ fun p hp'=>hp p (.tail _ hp')
   |false=>
    simp only[Bool.false_eq_true,if_false,pure_bind]
    exact ih _ fun p hp'=>hp p (.tail _ hp')
 have:=key scope.names [] h
 simpa using congrArg (fun t=>t >>=fun cs=>(pure cs:Sem _)) this
theorem lE {cells:List (Str×Addr)} (l:List (Str×NameKind)):∀(acc:List (Str×Addr)),(∀p∈l,p.2=.free->∃c,cells.lookup p.1=some c)->∀n,
  ((gK cells l acc).lookup n=if (n,NameKind.free)∈l then cells.lookup n else acc.lookup n):=by
 induction l with
 |nil=>exact fun acc _ n=>(if_neg List.not_mem_nil).symm
 |cons p r ih=>
  intro acc h n
  have ih:=fun acc=>ih acc (fun p hp=>h p (.tail _ hp)) n
  show List.lookup n (if p.2 == .free then gK cells r ((p.1,(cells.lookup p.1).getD 0)::acc) else gK cells r acc)=_
  by_cases hr:(n,NameKind.free)∈r
  ·rw[if_pos (List.mem_cons_of_mem p hr)]
   split<;>rw[ih,if_pos hr]
  ·split
   ·rename_i hq
    rw[ih,if_neg hr,List.lookup_cons]
    refine x1_1 (h p (.head _) (eq_of_beq hq)) fun c hc=>?_
    cases hb:n == p.1
    ·rw[if_neg fun z=>(List.mem_cons.mp z).elim (fun e=>ne_of_beq_false hb (congrArg (·.1) e)) hr]
    ·rw[if_pos (List.mem_cons.mpr (.inl (Prod.ext (eq_of_beq hb) (eq_of_beq hq).symm))),hc,eq_of_beq hb,hc];rfl
   ·rename_i hq
    rw[ih,if_neg hr,if_neg fun z=>(List.mem_cons.mp z).elim (fun e=>hq (by rw[<-e];rfl)) hr]
theorem qu {cells:List (Str×Addr)} (hd:cells.Pairwise fun x y=>x.2≠y.2) (l:List (Str×NameKind)):∀(acc:List (Str×Addr)),(∀p∈l,p.2=.free->∃c,cells.lookup p.1=some c)->(l.map (·.1)).Nodup->
  (∀p∈acc,cells.lookup p.1=some p.2/\p.1∉l.map (·.1))->acc.Pairwise (fun x y=>x.2≠y.2)->(gK cells l acc).Pairwise fun x y=>x.2≠y.2:=by
 induction l with
 |nil=>exact fun acc _ _ _ h=>h
 |cons p r ih=>
  intro acc h hn ha hp
  rw[List.map_cons,List.nodup_cons] at hn
  have ha':∀p∈acc,cells.lookup p.1=some p.2/\p.1∉r.map (·.1):=fun p hp'=>⟨(ha p hp').1,fun z=>(ha p hp').2 (.tail _ z)⟩
  show List.Pairwise _ (if p.2 == .free then gK cells r ((p.1,(cells.lookup p.1).getD 0)::acc) else gK cells r acc)
  split
  ·rename_i hq
   refine x1_1 (h p (.head _) (eq_of_beq hq)) fun c hc=>?_
   rw[hc]
   refine ih _ (fun p hp=>h p (.tail _ hp)) hn.2 (fun q hq=>(List.mem_cons.mp hq).elim (fun e=>?_) (ha' q)) (List.pairwise_cons.mpr ⟨fun q hq e=>?_,hp⟩)
   ·rw[e];exact⟨hc,hn.1⟩
   ·exact (ha q hq).2 (name_of_addr hd (mem_of_lookup hc) (mem_of_lookup ((ha q hq).1.trans (congrArg some e.symm)))▸.head _)
  ·exact ih acc (fun p hp=>h p (.tail _ hp)) hn.2 ha' hp
noncomputable def cD (sc:Scope) (n:Str) (q:NameKind):NameKind:=if (q == .free&&sc.kind == .function&&sc.names.lookup n == some .cell) then .cell else q
noncomputable def bO (sc scope:Scope):Scope:={scope with names:=scope.names.map fun p=>(p.1,cD sc p.1 p.2)}
theorem kR {cs:Scope} {env:Env}:relabel cs env=bO env.scope cs:=by
 unfold relabel bO Env.kindOf cD
 congr 1
 refine List.map_congr_left fun p _=>?_
 obtain ⟨n,q⟩:=p
 dsimp only
 split<;>rfl
theorem dj {sc:Scope} (l:List (Str×NameKind)) (n:Str):(l.map fun p=>(p.1,cD sc p.1 p.2)).lookup n=(l.lookup n).map (cD sc n):=by
 induction l with
 |nil=>rfl
 |cons p r ih=>
  rw[List.map_cons,List.lookup_cons,List.lookup_cons]
  cases hb:n == p.1
  ·exact ih
  ·rw[eq_of_beq hb];rfl
theorem nc {sc:Scope} {l:List (Str×NameKind)} {n:Str} (h:l.lookup n=some .free):(l.map fun p=>(p.1,cD sc p.1 p.2)).lookup n=some .cell\/(l.map fun p=>(p.1,cD sc p.1 p.2)).lookup n=some .free:=by
 rw[dj,h,Option.map_some]
 unfold cD
 split
 ·exact .inl rfl
 ·exact .inr rfl
theorem nf {sc:Scope} {l:List (Str×NameKind)} {n:Str} (h:(l.map fun p=>(p.1,cD sc p.1 p.2)).lookup n=some .cell):(n,NameKind.free)∈l\/(n,NameKind.cell)∈l:=by
 rw[dj] at h
 refine x1_2 (Option.map_eq_some_iff.mp h) fun q hq e=>?_
 unfold cD at e
 split at e
 ·rename_i hc
  have:q=.free:=by simp at hc;exact hc.1.1
  subst this
  exact .inl (mem_of_lookup hq)
 ·subst e;exact .inr (mem_of_lookup hq)
theorem iA {sc:Scope} {l:List (Str×NameKind)} {n:Str} (h:(l.map fun p=>(p.1,cD sc p.1 p.2)).lookup n=some .free):(n,NameKind.free)∈l:=by
 rw[dj] at h
 refine x1_2 (Option.map_eq_some_iff.mp h) fun q hq e=>?_
 unfold cD at e
 split at e
 ·cases e
 ·subst e;exact mem_of_lookup hq
section
variable {C:Cx} {sc:Scope} {k:Nat}
structure HTs (C:Cx) (sc:Scope) (k:Nat) (ifs:List Expr) (B:BT):Prop where
 run:∀(env:Env) (A:Around) (s:Shared) (m:aq) (σ:ae) (Q:Bool->ae->Prop) (P:Bool->Shared->Prop) (E:Value->Shared->Prop),
  EnvOk env sc->AOk C A k->RelG C σ s->FrameRel C env m σ s.heap->B m σ Q->
  (∀b σ' s',RelG C σ' s'->Step no σ σ' s.heap s'.heap->Q b σ'->P b s')->
  wpAny (model C.prog C.w) A (forIn ifs true fun c r=>if r=true then do let ok <-isTrue c env (eval c env);pure (ForInStep.yield ok) else pure (ForInStep.yield r)) P E s
theorem HTs.nil:HTs C sc k [] tT:=⟨fun _ _ s _ σ _ _ _ _ _ R _ q hP=>wpAny_tests_nil (hP true σ s R Step.refl q)⟩
theorem HTs.one {c:Expr} {B:BT} (h:HB C sc k c B):HTs C sc k [c] B:=⟨fun env A s m σ Q P E en ao R F q hP=>wpAny_tests_one (h.run env A s m σ Q P E en ao R F q hP)⟩
noncomputable def only (fv:List String) (m:aq):aq:=fun x=>if x∈fv then m x else Option.none
noncomputable def cq (g:Tgt) (inv:ae->Prop) (B:BT) (T:ET) (m:aq):List V->List V->ae->(List V->ae->Prop)->Prop
 |[],acc,σ,Q=>inv σ/\Q acc σ
 |v::r,acc,σ,Q=>inv σ/\∃m',bG g v m=some m'/\B m' σ fun b σ₁=>if b then T m' σ₁ fun y σ₂=>acc.length < 1048576/\cq g inv B T m r (acc++[y]) σ₂ Q else cq g inv B T m r acc σ₁ Q
@[reducible] noncomputable def zD (Q:V->ae->Prop):List V->ae->Prop:=fun ys σ=>bq ys σ Q
@[reducible] noncomputable def xE (fv:List String) (g:Tgt) (B:BT) (T:ET) (m:aq) (Q:V->ae->Prop):List V->(ae->Prop)->ae->Prop:=fun items inv σ=>cq g inv B T (only fv m) items [] σ (zD Q)
@[reducible] noncomputable def jV (fv:List String) (g:Tgt) (I:IT) (B:BT) (T:ET):ET:=fun m σ Q=>I m σ (xE fv g B T m Q)
noncomputable def Tgt.names:Tgt->List String
 |.name x=>[x]
 |.tup xs=>xs
theorem j9 (xs:List String):∀(vs:List V) (m:aq) (y:String),y∉xs->bD xs vs m y=m y:=by
 induction xs with
 |nil=>exact fun _ _ _ _=>rfl
 |cons x xs ih=>
  intro vs m y h
  cases vs with
  |nil=>rfl
  |cons v vs=>exact (ih vs _ y fun z=>h (.tail _ z)).trans (aj fun z=>h (z▸.head _))
theorem j8 {g:Tgt} {v:V} {m m':aq} (h:bG g v m=some m') {y:String} (hy:y∉g.names):m' y=m y:=by
 cases g with
 |name x=>cases Option.some.inj h;exact aj (fun z=>hy (by simp[Tgt.names,z]))
 |tup xs=>
  cases v with
  |tup vs=>
   by_cases z:xs.length=vs.length
   ·rw[<-Option.some.inj ((if_pos z).symm.trans h)];exact j9 _ _ _ _ hy
   ·exact (Option.some_ne_none _ (((if_neg z).symm.trans h).symm)).elim
  |_=>exact (Option.some_ne_none _ h.symm).elim
theorem FrameRel.weaken {env:Env} {m m':aq} {σ:ae} {h:Heap} (F:FrameRel C env m' σ h) (hw:∀x v,m x=some v->m' x=some v):FrameRel C env m σ h:=
 ⟨let ⟨mm,h1,h2⟩:=F.ns;⟨mm,h1,fun x v e q=>h2 x v (hw x v e) q⟩,fun x v e=>F.cel x v (hw x v e),F.cells,F.sepL,F.baseL,F.baseC,F.dist,F.has⟩
theorem iV {A:Around} {R:Result->Shared->Prop} {s:Shared} {elt target iter:Expr} {ifs:List Expr} {scope:Scope} {pos:Pos} {it acc:Value} {env:Env} (I:Nat->Shared->Prop)
  (turn:∀n s,I n s->wpAny (model C.prog C.w) A (pyNext it) (fun r s₁=>match r with
   |Option.none=>R (.ok .next) s₁
   |some v=>wpAny (model C.prog C.w) A (letOwnedTupleGo target it v) (fun _ s₁'=>wpAny (model C.prog C.w) A (assign target env v) (fun _ s₂=>
     wpAny (model C.prog C.w) A (forIn ifs true fun c r=>if r=true then do let ok <-isTrue c env (eval c env);pure (ForInStep.yield ok) else pure (ForInStep.yield r)) (fun ok s₃=>
      if ok=true then wpAny (model C.prog C.w) A (eval elt env) (fun x s₄=>
       wpAny (model C.prog C.w) A (call (.builtin "list.append") [acc,x]) (fun _ s₅=>∃m,m < n/\I m s₅) (notedBy (model C.prog C.w) A env fun e s'=>R (.error e) s') s₄) (notedBy (model C.prog C.w) A env fun e s'=>R (.error e) s') s₃
      else ∃m,m < n/\I m s₃) (notedBy (model C.prog C.w) A env fun e s'=>R (.error e) s') s₂) (notedBy (model C.prog C.w) A env fun e s'=>R (.error e) s') s₁') (notedBy (model C.prog C.w) A env fun e s'=>R (.error e) s') s₁) (notedBy (model C.prog C.w) A env fun e s'=>R (.error e) s') s)
  (n:Nat) (h:I n s):codeAny (model C.prog C.w) A (.compLoop (.ListComp elt [⟨target,iter,ifs,0⟩] scope pos) 0 it acc env) R s:=by
 refine codeAny_loop rfl I (fun n s hI=>?_) n h
 show wpAny _ A ((compTurn (.ListComp elt [⟨target,iter,ifs,0⟩] scope pos) 0 it acc env).onRaise (fun x=>do noteFrame x env;theTreesLotGoes x)) _ _ s
 refine wpAny_noted ?_
 rw[compTurn_list]
 refine wpAny_bind (wpAny_standAt (wpAny_bind (wpAny_mono (turn n s hI) (fun r s₁ h₁=>?_) fun _ _ h'=>h')))
 cases r with
 |none=>exact wpAny_pure h₁
 |some v=>
  refine wpAny_bind (wpAny_mono h₁ (fun _ s₁' h₁'=>?_) fun _ _ h'=>h')
  refine wpAny_bind (wpAny_mono h₁' (fun _ s₂ h₂=>wpAny_bind (wpAny_mono h₂ (fun ok s₃ h₃=>?_) fun _ _ h'=>h')) fun _ _ h'=>h')
  cases ok with
  |false=>exact wpAny_pure ⟨rfl,h₃⟩
  |true=>exact wpAny_bind (wpAny_bind (wpAny_mono h₃ (fun x s₄ h₄=>wpAny_bind (wpAny_mono h₄ (fun _ s₅ h₅=>wpAny_pure (wpAny_pure ⟨rfl,h₅⟩)) fun _ _ h'=>h')) fun _ _ h'=>h'))
structure CompOk (sc cs:Scope) (fv:List String) (g:Tgt):Prop where
 kind:cs.kind=.function
 nocell:∀y∈cs.names,y.2≠.cell
 names:∀y∈cs.names,y.2=.local->cs.names.lookup y.1=some .local
 nodup:(cs.names.map (·.1)).Nodup
 frees:∀p∈cs.names,p.2=.free->∃x∈fv,Str.ofString x=p.1
 frs:∀x∈fv,(Str.ofString x,NameKind.free)∈cs.names/\(sc.names.lookup (Str.ofString x)=some .cell\/sc.names.lookup (Str.ofString x)=some .free)
 tgt:∀x∈g.names,x∉fv
noncomputable def kj (env:Env) (x:String):Prop:=∃c,env.cells.lookup (Str.ofString x)=some c
theorem eB {α:Type} {l:List (Str×α)} {n:Str} {c:α} (hn:(l.map (·.1)).Nodup) (hm:(n,c)∈l):l.lookup n=some c:=by
 induction l with
 |nil=>exact absurd hm List.not_mem_nil
 |cons p r ih=>
  rw[List.map_cons,List.nodup_cons] at hn
  rw[List.lookup_cons]
  refine (List.mem_cons.mp hm).elim (fun e=>?_) fun hm=>?_
  ·rw[<-e,beq_self_eq_true]
  ·rw[beq_false_of_ne (show n≠p.1 from fun e=>hn.1 (e▸List.mem_map_of_mem hm))];exact ih hn.2 hm
theorem fR {h:Heap} {a:Addr} {xs:Array Value} (hp:h.PlainList a xs) (o:Obj) (e:h.get? a=some o):∀es ep,o.data≠.dict es ep:=by
 refine x1_1 hp fun n hn=>?_;clear hp
 rw[hn] at e;cases Option.some.inj e
 intro es ep z;cases z
inductive CompInv (C:Cx) (cenv:Env) (σ₂:ae) (h:Heap) (I H:Addr) (m:aq) (items:List V) (St:Nat->Heap->Prop) (L:List V->List V->ae->Prop) (n:Nat) (s':Shared):Prop
 |mk (i:Nat) (ys:List V) (ws:List Value) (σ':ae) (rest:List V) (e1:items.drop i=rest) (e2:i<=items.length) (e3:n=rest.length+1) (st:St i s'.heap) (hI:σ' I=Option.none) (hD:σ' h.objs.size=Option.none) (R:RelG C σ' s')
   (F:FrameRel C cenv m σ' s'.heap) (hp:s'.heap.PlainList h.objs.size (List.toArray ws)) (hv:VRels C.aS s'.heap ys ws) (hl:ys.length<=1048576) (S:Step (fun b=>b=I\/b=h.objs.size\/b=H) σ₂ σ' h s'.heap) (q:L rest ys σ'):CompInv C cenv σ₂ h I H m items St L n s'
theorem ig {env:Env} {A:Around} {s₀ s₂:Shared} {m:aq} {σ₀ σ₂:ae} {elt iter target:Expr} {ifs:List Expr} {cs:Scope} {pos:Pos} {fv:List String} {g:Tgt} {B:BT} {T:ET} {I:Addr} {items:List V} {inv:ae->Prop} {St:Nat->Heap->Prop}
  {Q:List V->ae->Prop} {RR:Value->Addr->Result->Shared->Prop} {E:Value->Shared->Prop}
  (ok:CompOk sc cs fv g) (hhas:∀x∈fv,kj env x) (ht:HT C (bO sc cs) k true target g) (hB:HTs C (bO sc cs) k ifs B) (hT:HE C (bO sc cs) k elt T)
  (en:EnvOk env sc) (ao:AOk C A k) (R₀:RelG C σ₀ s₀) (S:Step no σ₀ σ₂ s₀.heap s₂.heap) (R₂:RelG C σ₂ s₂) (F:FrameRel C env m σ₂ s₂.heap) (hit:It C k I items inv St) (st:St 0 s₂.heap) (hI:s₀.heap.objs.size<=I) (hσI:σ₂ I=Option.none)
  (q:cq g inv B T (only fv m) items [] σ₂ Q)
  (hRR:∀D C' ys ws mm σ' s',Heap.Ns s'.heap C' mm->s₂.heap.objs.size<=C'->s₂.heap.objs.size<=D->D≠C'->σ' D=Option.none->σ' C'=Option.none->s'.heap.PlainList D (List.toArray ws)->VRels C.aS s'.heap ys ws->RelG C σ' s'->
   ys.length<=1048576->Step no σ₀ σ' s₀.heap s'.heap->Step (fun b=>b=I) σ₂ σ' s₂.heap s'.heap->Q ys σ'->RR (.ref D) C' (.ok .next) s') :
  wpAny (model C.prog C.w) A (newList []) (fun acc s₃=>wpAny (model C.prog C.w) A (newFunctionEnv cs env.globals (gK env.cells cs.names []) [] env.qual Option.none .none (some env)) (fun cenv s₄=>
   codeAny (model C.prog C.w) A (.compStart (.ListComp elt [⟨target,iter,ifs,0⟩] cs pos) 0 (.ref I) acc {cenv with scope:=relabel cs env}) (RR acc cenv.locals) s₄) E s₃) E s₂:=by
 have hfree:∀p∈cs.names,p.2=.free->∃c,env.cells.lookup p.1=some c:=fun p hp hq=>by
  refine x1_2 (ok.frees p hp hq) fun x hx e=>?_
  rw[<-e];exact hhas x hx
 refine wpAny_newObj_type (wpAny_newFunctionEnv ok.nocell (by intro y hy;simp at hy) (fun h₁ hns₁ hsb₁=>?_) ok.kind)
 dsimp only at hns₁ hsb₁ ⊢
 generalize hH2:s₂.heap.push {cls:=.type "list",dict:=Option.none,data:=.seq ([]:List Value).toArray}=H2 at hns₁ hsb₁ ⊢
 have hC:H2.objs.size=s₂.heap.objs.size+1:=by rw[<-hH2,Heap.size_push]
 have hDC:s₂.heap.objs.size≠H2.objs.size:=by rw[hC];exact Nat.ne_of_lt (Nat.lt_succ_self _)
 have old:∀b o,s₂.heap.get? b=some o->h₁.get? b=some o:=fun b o e=>hsb₁.extBut b o (by rw[hC];exact Nat.ne_of_lt (Nat.lt_succ_of_lt (Heap.lt_size e))) (Heap.get?_push_of_some _ (hH2▸Heap.get?_push_of_some _ e))
 have hacc:h₁.PlainList s₂.heap.objs.size (List.toArray []):=⟨_,hsb₁.extBut _ _ hDC (Heap.get?_push_of_some _ (hH2▸Heap.get?_push_size _ rfl))⟩
 have hsz₁:h₁.objs.size=s₂.heap.objs.size+2:=by rw[hsb₁.1,Heap.size_push,hC]
 have R₁:RelG C σ₂ {s₂ with heap:=h₁,toks:=s₂.toks+([]:List (Str×Value)).length}:=R₂.grow old
 have cl:=lE (cells:=env.cells) cs.names [] hfree
 have kindF:∀x∈fv,(bO sc cs).names.lookup (Str.ofString x)=some .cell\/(bO sc cs).names.lookup (Str.ofString x)=some .free:=fun x hx=>
  nc (eB ok.nodup (ok.frs x hx).1)
 have hLC:(compEnvC cs (gK env.cells cs.names []) H2.objs.size env).locals=H2.objs.size:=rfl
 have eS:(compEnvC cs (gK env.cells cs.names []) H2.objs.size env).scope=bO sc cs:=by show relabel cs env=_;rw[kR,en.scope]
 have eCl:(compEnvC cs (gK env.cells cs.names []) H2.objs.size env).cells=gK env.cells cs.names []:=rfl
 have enC:EnvOk (compEnvC cs (gK env.cells cs.names []) H2.objs.size env) (bO sc cs):=⟨eS,ok.kind,en.globals,en.builtins⟩
 have memF:∀n c,(gK env.cells cs.names []).lookup n=some c->(n,NameKind.free)∈cs.names/\env.cells.lookup n=some c:=fun n c e=>by
  rw[cl n] at e
  split at e
  ·exact⟨by assumption,e⟩
  ·simp at e
 have kc:∀c v,s₂.heap.IsCell c v->h₁.IsCell c v:=fun c v ⟨o,ho,hd⟩=>⟨o,old c o ho,hd⟩
 have F₁:FrameRel C (compEnvC cs (gK env.cells cs.names []) H2.objs.size env) (only fv m) σ₂ h₁:=by
  refine⟨⟨_,hns₁,fun x v e kx=>?_⟩,fun x v e=>?_,fun n c e=>?_,R₂.freshNone (ai (by rw[hLC,hC];exact Nat.le_succ _)),R₂.baseNone (ai (by rw[hLC,hC];exact Nat.le_succ _)),fun n c e=>?_,?_,fun n e=>?_⟩
  ·unfold only at e
   split at e
   ·rename_i hx
    rcases kindF x hx with z | z<;>(rw[enC.of z] at kx;cases Option.some.inj kx)
   ·cases e
  ·unfold only at e
   split at e
   ·rename_i hx
    rcases F.cel x v e with z | ⟨z,c,w,h1,h2,h3⟩
    ·exfalso
     rcases (ok.frs x hx).2 with y | y<;>(rw[en.of y] at z;cases Option.some.inj z)
    ·refine .inr ⟨?_,c,w,?_,kc _ _ h2,h3.keep fun b o e _=>old b o e⟩
     ·exact (kindF x hx).imp (fun z=>enC.of z) fun z=>enC.of z
     ·rw[eCl,cl,if_pos (ok.frs x hx).1];exact h1
   ·cases e
  ·refine x1_1 (F.cells n c (memF n c e).2) fun v hv=>?_
   exact⟨v,kc _ _ hv⟩
  ·exact F.baseC n c (memF n c e).2
  ·exact qu F.dist cs.names [] hfree ok.nodup (fun p hp=>by cases hp) List.Pairwise.nil
  ·have go:(n,NameKind.free)∈cs.names->∃c,(gK env.cells cs.names []).lookup n=some c:=fun z=>by
    refine x1_1 (hfree _ z rfl) fun c hc=>?_
    exact⟨c,by rw[cl,if_pos z];exact hc⟩
   rcases e with e | e
   ·have e':(bO sc cs).names.lookup n=some .cell:=by unfold Env.kindOf at e;rw[eS] at e;exact e
    rcases nf e' with z | z
    ·exact go z
    ·exact absurd rfl (ok.nocell _ z)
   ·have e':(bO sc cs).names.lookup n=some .free:=by unfold Env.kindOf at e;rw[eS] at e;exact e
    exact go (iA e')
 have hI2:I < s₂.heap.objs.size:=by refine x1_2 (hit.live _ _ st) fun o ho _=>?_;exact Heap.lt_size ho
 have st₁:St 0 h₁:=hit.frame _ _ _ st (fun o e=>old I o e) (fun b o e _=>old b o e)
 have S₁:Step (fun b=>b=I\/b=s₂.heap.objs.size\/b=H2.objs.size) σ₂ σ₂ s₂.heap h₁:=.grow old (by rw[hsz₁];exact Nat.le_add_right _ _)
 have hσD:σ₂ s₂.heap.objs.size=Option.none:=R₂.freshNone (aH _)
 have hIb:C.hB.get? I=Option.none:=R₀.baseNone (ai hI)
 have hIL:I≠H2.objs.size:=by rw[hC];exact Nat.ne_of_lt (Nat.lt_succ_of_lt hI2)
 have wk:∀{v m'},bG g v (only fv m)=some m'->∀x u,only fv m x=some u->m' x=some u:=fun hb x u e=>by
  rw[j8 hb];exact e
  intro hx
  unfold only at e
  rw[if_neg (ok.tgt x hx)] at e;cases e
 have loop:∀s₃:Shared,s₃={s₂ with heap:=h₁,toks:=s₂.toks+([]:List (Str×Value)).length}->
   codeAny (model C.prog C.w) A (.compLoop (.ListComp elt [⟨target,iter,ifs,0⟩] cs pos) 0 (.ref I) (.ref s₂.heap.objs.size) (compEnvC cs (gK env.cells cs.names []) H2.objs.size env)) (RR (.ref s₂.heap.objs.size) H2.objs.size) s₃:=by
  rintro s₃ rfl
  generalize compEnvC cs (gK env.cells cs.names []) H2.objs.size env=cenv at hLC eS eCl enC F₁ ⊢
  refine iV
   (CompInv C cenv σ₂ s₂.heap I H2.objs.size (only fv m) items St fun rest ys σ'=>cq g inv B T (only fv m) rest ys σ' Q) ?_ _
   ⟨0,[],[],σ₂,items,by simp,by simp,rfl,st₁,hσI,hσD,R₁,F₁,hacc,.nil,by simp,S₁,q⟩
  rintro n s' ⟨i,ys,ws,σ',rest,e1,e2,rfl,st',hσ',hσD',R',F',hp',hv',hl',S',q'⟩
  have nT:∀o,s'.heap.get? s₂.heap.objs.size=some o->¬d4 o/\∀v,o.data≠.cell v:=fun o ho=>by
   refine x1_1 hp' fun n hn=>?_;clear hp';rw[hn] at ho;cases Option.some.inj ho;exact⟨by simp[d4],by simp⟩
  have drew:∀{h':Heap},Heap.ExtBut I s'.heap h'->s'.heap.objs.size<=h'.objs.size->Step (fun b=>b=I\/b=s₂.heap.objs.size\/b=H2.objs.size) σ' σ' s'.heap h':=fun hx hsz=>
   .of (fun b o e _ q=>hx b o (fun z=>q (.inl z)) e) hsz fun _ a b=>absurd a b
  have ktI:∀{h':Heap},Heap.ExtBut I s'.heap h'->ar s'.heap h':=fun hx b o e ht=>hx b o (by
   rintro rfl;refine x1_3 (hit.live _ _ st') fun oI hoI hT _=>?_;rw[hoI] at e;cases Option.some.inj e;exact hT ht) e
  cases rest with
  |nil=>
   have hil:i=items.length:=jW e1 e2
   subst hil
   refine av (hit.done A σ' s' _ _ ao R' q'.1 st' fun h' tk hx hsz=>?_)
   have R₃:=bp (tk:=tk) R' hx hσ' hIb (hit.live _ _ st')
   have F₃:=a6 F' hx (hit.live _ _ st') (by rw[hLC];exact hIL)
   have S₃:=S'.trans (drew hx hsz)
   refine x1_2 F₃.ns fun mm hmm _=>?_
   rw[hLC] at hmm
   have sep:=F₃.sepL
   rw[hLC] at sep
   refine hRR _ _ ys ws mm σ' _ hmm (by rw[hC];exact Nat.le_succ _) (Nat.le_refl _) hDC hσD' sep (hp'.extBut hx (Nat.ne_of_gt hI2)) (hv'.keep (ktI hx)) R₃ hl' (((S.mono fun _ _ _ z=>z.elim).trans S₃).mono fun b o e z=>?_) (S₃.mono fun b o e z=>?_) q'.2
   ·have:=Heap.lt_size e
    have hh:=S.size
    rcases z with z | z | z
    ·exact absurd this (by rw[z];exact Nat.not_lt.mpr hI)
    ·exact absurd this (by rw[z];exact Nat.not_lt.mpr hh)
    ·exact absurd this (by rw[z,hC];exact Nat.not_lt.mpr (Nat.le_succ_of_le hh))
   ·have:=Heap.lt_size e
    rcases z with z | z | z
    ·exact z
    ·exact absurd this (by rw[z];exact Nat.lt_irrefl _)
    ·exact absurd this (by rw[z,hC];exact Nat.not_lt.mpr (Nat.le_succ _))
  |cons v r=>
   obtain ⟨hinv,m₁,hm₁,q'⟩:=q'
   have hiv:items[i]?=some v:=by
    have:(items.drop i)[0]?=some v:=by rw[e1];rfl
    simpa using this
   have hilt:i < items.length:=mK e1
   refine av (hit.next A σ' s' i v _ _ ao R' hinv st' hiv fun w h₂ tk₂ hv st₂ hx hsz=>?_)
   have R₃:=bp (tk:=tk₂) R' hx hσ' hIb (hit.live _ _ st')
   have F₃:=a6 F' hx (hit.live _ _ st') (by rw[hLC];exact hIL)
   have S₃:=S'.trans (drew hx hsz)
   have hp₃:=hp'.extBut hx (Nat.ne_of_gt hI2)
   have hv₃:=hv'.keep (ktI hx)
   refine hit.own A _ (i+1) target w _ _ st₂ ?_
   refine ht.run cenv A _ (only fv m) m₁ σ' v w _ _ enC ao R₃ F₃ hv hm₁ fun s₄ R₄ F₄ S₄=>?_
   have S₄':Step (fun b=>b=H2.objs.size) σ' σ' h₂ s₄.heap:=S₄.mono fun b _ _ z=>z.elim (fun z=>by rw[hLC] at z;exact z) fun z=>by cases z.1
   have kt₄:ar h₂ s₄.heap:=S₄'.tups (s:={s' with heap:=h₂,toks:=tk₂}) R₃ fun b o z e=>by
    subst z;rw[<-hLC] at e;exact F₃.ownT _ o (.inl rfl) e
   have st₄:St (i+1) s₄.heap:=hit.frame _ _ _ st₂ (fun o e=>S₄'.keep I o e hσ' hIL (hit.flds _ _ st₂ o e)) kt₄
   have hp₄:s₄.heap.PlainList s₂.heap.objs.size (List.toArray ws):=hp₃.at fun o e=>S₄'.keep _ o e hσD' hDC (fR hp₃ o e)
   have hv₄:=hv₃.keep kt₄
   have S₅:Step (fun b=>b=I\/b=s₂.heap.objs.size\/b=H2.objs.size) σ₂ σ' s₂.heap s₄.heap:=S₃.trans (S₄'.mono fun _ _ _ z=>.inr (.inr z))
   refine hB.run cenv A s₄ m₁ σ' _ _ _ enC ao R₄ F₄ q' fun b σ₅ s₅ R₅ Sb q₅=>?_
   have sepI:∀{σa σb:ae} {sa:Shared} {hb:Heap},Step no σa σb sa.heap hb->St (i+1) sa.heap->σa I=Option.none->σb I=Option.none:=fun {σa σb sa hb} Sx stx hx=>by
    cases z:σb I with
    |none=>rfl
    |some o=>
     refine x1_2 (hit.live _ _ stx) fun o' ho' _=>?_
     exact absurd (Heap.lt_size ho') (Nat.not_lt.mpr (Sx.new I hx (by rw[z];simp)))
   have sepD:∀{σa σb:ae} {sa:Shared} {hb:Heap},Step no σa σb sa.heap hb->sa.heap.PlainList s₂.heap.objs.size (List.toArray ws)->σa s₂.heap.objs.size=Option.none->σb s₂.heap.objs.size=Option.none:=fun {σa σb sa hb} Sx hpx hx=>by
    cases z:σb s₂.heap.objs.size with
    |none=>rfl
    |some o=>
     refine x1_1 hpx fun n' hn'=>?_;clear hpx
     exact absurd (Heap.lt_size hn') (Nat.not_lt.mpr (Sx.new _ hx (by rw[z];simp)))
   have st₅:St (i+1) s₅.heap:=hit.frame _ _ _ st₄ (fun o e=>Sb.keep I o e hσ' (fun z=>z) (hit.flds _ _ st₄ o e)) (Sb.tupsN R₄)
   have hp₅:s₅.heap.PlainList s₂.heap.objs.size (List.toArray ws):=hp₄.at fun o e=>Sb.keep _ o e hσD' (fun z=>z) (fR hp₄ o e)
   have hv₅:=hv₄.keep (Sb.tupsN R₄)
   have F₅:=F₄.step R₄ Sb
   have hσ₅:=sepI Sb st₄ hσ'
   have hσD₅:=sepD Sb hp₄ hσD'
   have S₆:=S₅.trans (Sb.mono fun _ _ _ z=>z.elim)
   have dr:items.drop (i+1)=r:=by rw[<-List.tail_drop,e1];rfl
   cases b with
   |false=>
    simp only[Bool.false_eq_true,if_false] at q₅ ⊢
    exact⟨r.length+1,Nat.lt_succ_self _,i+1,ys,ws,σ₅,r,dr,hilt,rfl,st₅,hσ₅,hσD₅,R₅,F₅.weaken (wk hm₁),hp₅,hv₅,hl',S₆,q₅⟩
   |true=>
    simp only[if_true] at q₅ ⊢
    refine hT.run cenv A s₅ m₁ σ₅ _ _ _ enC ao R₅ F₅ q₅ fun y wy σ₆ s₆ hy R₆ Sc q₆=>?_
    refine bH q₆ fun hlen q₆=>?_
    have st₆:St (i+1) s₆.heap:=hit.frame _ _ _ st₅ (fun o e=>Sc.keep I o e hσ₅ (fun z=>z) (hit.flds _ _ st₅ o e)) (Sc.tupsN R₅)
    have hp₆:s₆.heap.PlainList s₂.heap.objs.size (List.toArray ws):=hp₅.at fun o e=>Sc.keep _ o e hσD₅ (fun z=>z) (fR hp₅ o e)
    have hv₆:=hv₅.keep (Sc.tupsN R₅)
    have hσ₆:=sepI Sc st₅ hσ₅
    have hσD₆:=sepD Sc hp₅ hσD₅
    have F₆:=F₅.step R₅ Sc
    refine wpAny_list_append_plain hp₆ (fun h₇ hp₇ hs₇=>?_) (by rw[List.size_toArray,<-hv₆.length,sizeLine_eq];exact Nat.le_trans hl' (by decide))
    have nD:∀o,s₆.heap.get? s₂.heap.objs.size=some o->¬d4 o/\∀v,o.data≠.cell v:=fun o ho=>by
     refine x1_1 hp₆ fun n hn=>?_;clear hp₆;rw[hn] at ho;cases Option.some.inj ho;exact⟨by simp[d4],by simp⟩
    obtain ⟨oD,hoD⟩:∃o,s₆.heap.get? s₂.heap.objs.size=some o:=let ⟨n,hn⟩:=hp₆;⟨_,hn⟩
    have kt₇:ar s₆.heap h₇:=fun b o e ht=>hs₇.extBut b o (by rintro rfl;exact (nD o e).1 ht) e
    have R₇:RelG C σ₆ {s₆ with heap:=h₇}:=bp (tk:=s₆.toks) R₆ hs₇.extBut hσD₆ (R₂.baseNone (aH _)) ⟨oD,hoD,nD oD hoD⟩
    have F₇:FrameRel C cenv m₁ σ₆ h₇:=a6 F₆ hs₇.extBut ⟨oD,hoD,nD oD hoD⟩ (by rw[hLC];exact hDC)
    have st₇:St (i+1) h₇:=hit.frame _ _ _ st₆ (fun o e=>hs₇.extBut I o (Nat.ne_of_lt hI2) e) kt₇
    refine⟨r.length+1,Nat.lt_succ_self _,i+1,ys++[y],ws++[wy],σ₆,r,dr,hilt,rfl,st₇,hσ₆,hσD₆,R₇,F₇.weaken (wk hm₁),by simpa using hp₇,(hv₆.append (.cons hy .nil)).keep kt₇,by simp;exact Nat.le_of_lt_succ hlen,(S₆.trans (Sc.mono fun _ _ _ z=>z.elim)).trans ?_,q₆⟩
    exact .of (fun b o e _ q=>hs₇.extBut b o (fun z=>q (.inr (.inl z))) e) (Nat.le_of_eq hs₇.1.symm) fun _ a b=>absurd a b
 exact codeAny_compStart_list (loop _ rfl) (hit.self A _ 0 _ _ st₁ (loop _ rfl))
theorem iN {env:Env} {m:aq} {σ:ae} {h:Heap} {cs:Scope} {fv:List String} {g:Tgt} (ok:CompOk sc cs fv g) (en:EnvOk env sc) (F:FrameRel C env m σ h):∀x∈fv,kj env x:=fun x hx=>
 F.has _ ((ok.frs x hx).2.imp (fun z=>en.of z) fun z=>en.of z)
theorem RelG.enter {σ:ae} {s:Shared} {D:Addr} {o:AObj} (R:RelG C σ s) (hD:C.hB.get? D=Option.none) (ho:ObjRel C s.heap D o):RelG C (am σ D o) s:=
 ⟨R.rest,R.base,fun a o' e=>by
  by_cases h:a=D
  ·subst h;rw[af] at e;cases Option.some.inj e;exact ho
  ·rw[an h] at e;exact R.view a o' e,
   fun a ha=>by
  by_cases h:a=D
  ·subst h;exact hD
  ·rw[an h] at ha;exact R.apart a ha⟩
theorem Step.enter {own:Addr->Prop} {σ σ':ae} {h h':Heap} {D:Addr} {o:AObj} (S:Step own σ σ' h h') (hD:h.objs.size<=D):Step own σ (am σ' D o) h h':=
 ⟨S.keepL,S.size,fun b n z=>by
  by_cases hb:b=D
  ·subst hb;exact hD
  ·rw[an hb] at z;exact S.new b n z⟩
theorem r7 {elt iter target:Expr} {ifs:List Expr} {cs:Scope} {pos:Pos} {fv:List String} {g:Tgt} {I:IT} {B:BT} {T:ET} (ok:CompOk sc cs fv g)
  (hi:HI C sc k iter I) (ht:HT C (bO sc cs) k true target g) (hB:HTs C (bO sc cs) k ifs B) (hT:HE C (bO sc cs) k elt T) (hf:∀env x,foldedSetIterable iter env x=pure x) :
  HE C sc k (.ListComp elt [⟨target,iter,ifs,0⟩] cs pos) (jV fv g I B T):=by
 refine⟨?_⟩;intro env A s m σ Q P E en ao R F q hP
 have hfree:∀p∈cs.names,p.2=.free->∃c,env.cells.lookup p.1=some c:=fun p hp hq=>by
  refine x1_2 (ok.frees p hp hq) fun x hx e=>?_
  rw[<-e];exact iN ok en F x hx
 rw[eval_ListComp]
 refine wpAny_comprehension_free (use:=Option.none) rfl (hf env) (gF hfree) ok.kind ok.names (hi.run env A s m σ _ _ E en ao R F q fun items inv I St σ₂ s₂ hit st hI hσI R₂ S₂ q₂=>?_)
 refine ig (RR:=fun acc C'=>compPost (model C.prog C.w) A E Option.none P acc C') ok (iN ok en F) ht hB hT en ao R S₂ R₂ (F.step R S₂) hit st hI hσI q₂ ?_
 intro D C' ys ws mm σ' s' hmm hC' hD hDC hσD hσC hp hv R' hly S' SI q'
 refine⟨mm,hmm,fun h'' hs''=>?_⟩
 have nT:∀o,s'.heap.get? C'=some o->¬d4 o/\∀v,o.data≠.cell v:=fun o ho=>by
  refine x3_3 hmm fun o' es ep ho' hd' _=>?_;clear hmm;rw[ho'] at ho;cases Option.some.inj ho;exact⟨by simp[d4,hd'],by simp[hd']⟩
 obtain ⟨oC,hoC⟩:∃o,s'.heap.get? C'=some o:=let ⟨o',_,_,ho',_⟩:=hmm;⟨o',ho'⟩
 have hC0:s.heap.objs.size<=C':=Nat.le_trans S₂.size hC'
 have hD0:s.heap.objs.size<=D:=Nat.le_trans S₂.size hD
 have kt:ar s'.heap h'':=fun b o e ht=>hs''.extBut b o (by rintro rfl;exact (nT o e).1 ht) e
 have R₃:RelG C σ' {s' with heap:=h''}:=bp (tk:=s'.toks) R' hs''.extBut hσC (R.baseNone (ai hC0)) ⟨oC,hoC,nT oC hoC⟩
 have R₄:=R₃.enter (D:=D) (o:=.list ys) (R.baseNone (ai hD0)) ⟨by exact Nat.le_trans hly (by decide),ws,hp.extBut hs''.extBut hDC,hv.keep kt⟩
 have S₃:Step (fun b=>b=C') σ' σ' s'.heap h'':=.of (fun b o e _ q=>hs''.extBut b o q e) (Nat.le_of_eq hs''.1.symm) fun _ a b=>absurd a b
 have S₄:Step no σ σ' s.heap h'':=((S'.mono fun _ _ _ z=>z.elim).trans S₃).mono fun b o e z=>absurd (Heap.lt_size e) (by rw[z];exact Nat.not_lt.mpr hC0)
 exact hP _ _ _ _ (.ref D) R₄ (S₄.enter hD0) (q' D hσD)
theorem ki {elt iter target:Expr} {ifs:List Expr} {cs:Scope} {pos p spos:Pos} {x:String} {fv:List String} {g:Tgt} {I:IT} {B:BT} {T:ET} (ok:CompOk sc cs fv g)
  (hi:HI C sc k iter I) (ht:HT C (bO sc cs) k true target g) (hB:HTs C (bO sc cs) k ifs B) (hT:HE C (bO sc cs) k elt T) (hf:∀env x,foldedSetIterable iter env x=pure x)
  (hx:sc.names.lookup (Str.ofString x)=some .local) (hsw:∀env,EnvOk env sc->swapsWith (.ListComp elt [⟨target,iter,ifs,0⟩] cs pos) (some (.Name (Str.ofString x) p)) spos.line env=pure true) :
  HS1 C sc k (.Assign [.Name (Str.ofString x) p] (.ListComp elt [⟨target,iter,ifs,0⟩] cs pos) spos) (kQ x (jV fv g I B T)):=by
 refine⟨?_⟩;intro env A s m σ Q P E en ao R F q hP
 have hfree:∀p∈cs.names,p.2=.free->∃c,env.cells.lookup p.1=some c:=fun p hp hq=>by
  refine x1_2 (ok.frees p hp hq) fun x hx e=>?_
  rw[<-e];exact iN ok en F x hx
 rw[exec_Assign_Name_used _ _ _ _ (hsw env en)]
 refine wpAny_bind (wpAny_standAt (wpAny_bind ?_))
 show wpAny _ A (do let _ <-comprehension (.ListComp elt [⟨target,iter,ifs,0⟩] cs pos) cs env _ (newList []) false (eval iter env) (some (assign (.Name (Str.ofString x) p) env))) _ _ s
 refine wpAny_bind (wpAny_mono (wpAny_comprehension_free (use:=some (assign (.Name (Str.ofString x) p) env)) (Q:=fun _ s'=>P .next s') rfl (hf env) (gF hfree) ok.kind ok.names (hi.run env A s m σ _ _ E en ao R F q fun items inv I St σ₂ s₂ hit st hI hσI R₂ S₂ q₂=>?_))
  (fun _ s' hq=>wpAny_pure (wpAny_pure hq)) fun _ _ e=>e)
 refine ig (RR:=fun acc C'=>compPost (model C.prog C.w) A E (some (assign (.Name (Str.ofString x) p) env)) (fun _ s'=>P .next s') acc C') ok (iN ok en F) ht hB hT en ao R S₂ R₂ (F.step R S₂) hit st hI hσI q₂ ?_
 intro D C' ys ws mm σ' s' hmm hC' hD hDC hσD hσC hp hv R' hly S' SI q'
 have hC0:s.heap.objs.size<=C':=Nat.le_trans S₂.size hC'
 have hD0:s.heap.objs.size<=D:=Nat.le_trans S₂.size hD
 have R₃:=R'.enter (D:=D) (o:=.list ys) (R.baseNone (ai hD0)) ⟨by exact Nat.le_trans hly (by decide),ws,hp,hv⟩
 have S₃:=S'.enter (o:=.list ys) hD0
 have F₃:=F.step R S₃
 have hCL:C'≠env.locals:=fun e=>by
  refine x1_2 F.ns fun mL hmL _=>?_
  exact absurd hmL.lt (by rw[<-e];exact Nat.not_lt.mpr hC0)
 refine wpAny_assign_Name (bf en R₃ F₃ hx (.ref D) fun s₄ R₄ F₄ S₄=>?_)
 have hσ₃C:am σ' D (.list ys) C'=Option.none:=by rw[an (Ne.symm hDC)];exact hσC
 have hmm4:s₄.heap.Ns C' mm:=Like.ns hmm fun o e=>S₄.keepL C' o e hσ₃C hCL
 refine⟨mm,hmm4,fun h'' hs''=>?_⟩
 have nT:∀o,s₄.heap.get? C'=some o->¬d4 o/\∀v,o.data≠.cell v:=fun o ho=>by
  refine x3_3 hmm4 fun o' es ep ho' hd' _=>?_;clear hmm4;rw[ho'] at ho;cases Option.some.inj ho;exact⟨by simp[d4,hd'],by simp[hd']⟩
 obtain ⟨oC,hoC⟩:∃o,s₄.heap.get? C'=some o:=let ⟨o',_,_,ho',_⟩:=hmm4;⟨o',ho'⟩
 have R₅:=bp (tk:=s₄.toks) R₄ hs''.extBut hσ₃C (R.baseNone (ai hC0)) ⟨oC,hoC,nT oC hoC⟩
 have F₅:=a6 F₄ hs''.extBut ⟨oC,hoC,nT oC hoC⟩ hCL
 have S₅:Step (fun b=>b=env.locals\/b=C') (am σ' D (.list ys)) (am σ' D (.list ys)) s'.heap h'':=(S₄.mono fun _ _ _ z=>.inl z).trans (.of (fun b o e _ q=>hs''.extBut b o (fun z=>q (.inr z)) e) (Nat.le_of_eq hs''.1.symm) fun _ a b=>absurd a b)
 have S₆:Step (dZ env) σ (am σ' D (.list ys)) s.heap h'':=((S₃.mono fun _ _ _ z=>z.elim).trans S₅).mono fun b o e z=>z.elim .inl fun z=>absurd (Heap.lt_size e) (by rw[z];exact Nat.not_lt.mpr hC0)
 exact hP .next .next _ _ _ .next R₅ F₅ S₆ (q' D hσD)
end
set_option tactic.hygienic true
section
variable {C:Cx} {sc:Scope} {k:Nat}
noncomputable def ff (e:Expr):Prop:=subscripted e false=fun o i=>operate [o,i] (getItem o i)
theorem b9 {A:Around} {s:Shared} {slice:Expr} {o i:Value} {T id:String} {P E:Value->Shared->Prop} (hsl:ff slice) (hT:s.TypeIs o T)
  (hl:typeLookup (.type T) "__getitem__"=pure (some (.builtin id))) (hg:wpAny (model C.prog C.w) A (getItem o i) P E s) :
  wpAny (model C.prog C.w) A (getitemInPython o >>=fun b=>subscripted slice b o i) P E s:=by
 refine wpAny_bind ?_
 rw[getitemInPython_of_ne hT.not_modules]
 refine wpAny_bind (wpAny_specialOf hT hl ?_)
 refine wpAny_pure ?_
 rw[congrFun (congrFun hsl o) i]
 exact wpAny_operating hg
noncomputable def iM (i:Int) (n:Nat):Option Nat:=if 0<=i then (if i < n then some i.toNat else Option.none) else (if -(n:Int)<=i then some (i+n).toNat else Option.none)
noncomputable def fY (ns:List Int):O2
 |.str x,.int i,σ,Q=>x.length < 16777217/\∃j c,iM i x.length=some j/\x.cps.toList[j]?=some c/\Q (.str ⟨#[c]⟩) σ
 |.script,.int i,σ,Q=>∃j n,0<=i/\iM i ns.length=some j/\ns[j]?=some n/\Q (.int n) σ
 |.tup vs,.int i,σ,Q=>vs.length < 16777217/\∃j v,iM i vs.length=some j/\vs[j]?=some v/\Q v σ
 |.ref a,.int i,σ,Q=>∃xs j v,σ a=some (.list xs)/\iM i xs.length=some j/\xs[j]?=some v/\Q v σ
 |_,_,_,_=>False
theorem pJ {i:Int} {n:Nat} (h:-(n:Int)<=i):0<=i+n:=by have:=Int.add_le_add_right h n;rwa [Int.add_left_neg] at this
theorem pK {i:Int} {n:Nat} (h:i < 0):i+n < n:=by have:=Int.add_lt_add_right h (n:Int);rwa [Int.zero_add] at this
theorem pO {i:Int} {n:Nat} (h0:0<=i) (h:i < n):i.toNat < n:=by obtain ⟨m,rfl⟩:=Int.eq_ofNat_of_zero_le h0;exact Int.ofNat_lt.mp h
theorem fits {n:Nat} {i N:Int} (h1:-(n:Int)<=i) (h2:i < n) (hz:n<=16777216) (hN:((16777216:Nat):Int)<=N):-N<=i/\i < N:=
 ⟨Int.le_trans (Int.neg_le_neg (Int.le_trans (Int.ofNat_le.mpr hz) hN)) h1,Int.lt_of_lt_of_le h2 (Int.le_trans (Int.ofNat_le.mpr hz) hN)⟩
theorem iK {i:Int} {n j:Nat} (h:iM i n=some j):seqIndex? i n=some j:=by
 unfold iM at h
 unfold seqIndex?
 split at h
 ·split at h
  ·cases h
   rename_i h1 h2
   simp[Int.not_lt.mpr h1,h1,h2]
  ·cases h
 ·split at h
  ·cases h
   rename_i h1 h2
   have:i < 0:=by exact Int.not_le.mp h1
   simp only[this,if_true]
   rw[if_pos (by simp only[Bool.and_eq_true,decide_eq_true_eq];exact⟨pJ h2,pK this⟩)]
  ·cases h
theorem iL {i:Int} {n j:Nat} (h:iM i n=some j):j < n/\-(n:Int)<=i/\i < n:=by
 unfold iM at h
 split at h
 ·split at h
  ·rename_i h1 h2;cases h;exact⟨pO h1 h2,Int.le_trans (Int.neg_nonpos_of_nonneg (Int.natCast_nonneg n)) h1,h2⟩
  ·cases h
 ·split at h
  ·rename_i h1 h2;cases h;exact⟨pO (pJ h2) (pK (Int.not_le.mp h1)),h2,Int.lt_of_lt_of_le (Int.not_le.mp h1) (Int.natCast_nonneg n)⟩
  ·cases h
theorem jQ {A:Around} {s:Shared} {a:Addr} {ws:List Value} {i:Int} {t:Tok} {j:Nat} {w:Value} {P E:Value->Shared->Prop} (hl:s.heap.IsList a ws.toArray) (hi:iM i ws.length=some j) (hw:ws[j]?=some w) (hz:ws.length<=16777216) (q:P w s) :
  wpAny (model C.prog C.w) A (getItem (.ref a) (.int i t)) P E s:=by
 have hlt:=iL hi
 by_cases h0:0<=i
 ·have:j=i.toNat:=by unfold iM at hi;rw[if_pos h0] at hi;split at hi<;>cases hi;rfl
  subst this
  exact wpAny_getItem_list hl h0 (fits hlt.2.1 hlt.2.2 hz (by decide)).2 (by simpa using hw) q
 ·have:j=(i+ws.length).toNat:=by unfold iM at hi;rw[if_neg h0] at hi;split at hi<;>cases hi;rfl
  subst this
  refine wpAny_getItem_list_neg hl (by exact Int.not_le.mp h0) (by simp;exact hlt.2.1) (fits hlt.2.1 hlt.2.2 hz (by decide)).1 (by simpa using hw) q
theorem ru (O:C.Ok) {slice:Expr} (hsl:ff slice):Op2 C k (fun o i=>getitemInPython o >>=fun b=>subscripted slice b o i) (fY C.ns):=by
 intro A s σ a b wa wb Q P E ao R va vb q hP
 cases a<;>first | exact q.elim | skip
 all_goals (cases b<;>first | exact q.elim | skip)
 ·rename_i x i
  obtain ⟨_,rfl⟩:=va.invStr;obtain ⟨_,rfl⟩:=vb.invInt
  obtain ⟨hx,j,c,hj,hc,q⟩:=q
  refine b9 hsl (typeIs_str _ _ _) F.slot_str_getitem.lookup ?_
  have hlt:=iL hj
  have e:Txt.charAt x i=some c:=by
   unfold Txt.charAt
   rw[iK hj]
   simpa using hc
  refine SB.getItem ?_ (by rw[e];rfl) ?_
  ·unfold fitsSsize;simp;exact fits hlt.2.1 hlt.2.2 (Nat.le_of_lt_succ hx) (by decide)
  ·have e2:Txt.item x i=⟨#[c]⟩:=by unfold Txt.item;rw[e];rfl
   rw[e2]
   exact hP _ _ σ _ (.str _ _) (R.tok _) Step.refl q
 ·rename_i aa i
  obtain rfl:=va.invRef;obtain ⟨_,rfl⟩:=vb.invInt
  refine x3_4 q fun xs j v hx hj hv q=>?_
  obtain ⟨hz,ws,h1,h2⟩:=R.view aa _ hx
  refine x1_2 (h2.get hv) fun w hw hr=>?_
  exact b9 hsl h1.isList.typeIs slot_list_getitem.lookup (jQ h1.isList (by rw[<-h2.length];exact hj) hw (by rw[<-h2.length];exact hz) (hP _ _ σ s hr R Step.refl q))
 ·rename_i i
  obtain rfl:=va.invScript;obtain ⟨_,rfl⟩:=vb.invInt
  refine x2_4 q fun j n h0 hj hv q=>?_
  refine x1_3 O.script fun ws h1 h2 h3=>?_
  refine x1_1 (h3 j n hv) fun t ht=>?_
  have hl:s.heap.IsList C.aS ws:=h1.at fun o e=>R.base _ _ e
  have hl':s.heap.IsList C.aS ws.toList.toArray:=by simpa using hl
  exact b9 hsl hl.typeIs slot_list_getitem.lookup (jQ hl' (by rw[h2];exact hj) ht (by rw[h2];exact Nat.le_trans O.few (by decide)) (hP _ _ σ s (.int n t) R Step.refl q))
 ·rename_i vs i
  obtain ⟨_,rfl⟩:=vb.invInt
  cases va with
  |@tup _ at' ws ht hvs=>
   obtain ⟨hz,j,v,hj,hv,q⟩:=q
   refine x1_2 (hvs.get hv) fun w hw hr=>?_
   have hlt:=iL hj
   have htt:PyProof.Rows.IsTup s.heap at' ws.toArray:=ht
   refine b9 hsl ht.typeIs (PyProof.Rows.slot_tuple_getitem).lookup (PyProof.Rows.getItem_tuple htt (fits hlt.2.1 hlt.2.2 (Nat.le_of_lt_succ hz) (by decide)).1 (fits hlt.2.1 hlt.2.2 (Nat.le_of_lt_succ hz) (by decide)).2 (by rw[List.size_toArray,<-hvs.length];exact iK hj) (by simpa using hw) (hP _ _ σ s hr R Step.refl q))
noncomputable def gS (n:Nat) (lo hi:Option Int):Nat×Nat:=(lo.elim 0 (clipAt n),hi.elim n (clipAt n)-lo.elim 0 (clipAt n))
noncomputable def aL {α:Type} (l:List α) (lo hi:Option Int):List α:=(l.drop (gS l.length lo hi).1).take (gS l.length lo hi).2
noncomputable def mz (ns:List Int) (lo hi:Option Int):O1
 |.ref a,σ,Q=>∃xs,σ a=some (.list xs)/\bq (aL xs lo hi) σ Q
 |.script,σ,Q=>bq ((aL ns lo hi).map .int) σ Q
 |_,_,_=>False
structure HP (C:Cx) (sc:Scope) (k:Nat) (e:Option Expr) (T:aq->ae->(Option Int->ae->Prop)->Prop):Prop where
 run:∀(env:Env) (A:Around) (s:Shared) (m:aq) (σ:ae) (Q:Option Int->ae->Prop) (P:Value->Shared->Prop) (E:Value->Shared->Prop),
  EnvOk env sc->AOk C A k->RelG C σ s->FrameRel C env m σ s.heap->T m σ Q->
  (∀i p σ' s',i=Option.map Prod.fst p->RelG C σ' s'->Step no σ σ' s.heap s'.heap->Q i σ'->P (partValue p) s')->
  wpAny (model C.prog C.w) A (evalPart e env) P E s
@[reducible] noncomputable def sG:aq->ae->(Option Int->ae->Prop)->Prop:=fun _ σ Q=>Q Option.none σ
@[reducible] noncomputable def sF (T:ET):aq->ae->(Option Int->ae->Prop)->Prop:=fun m σ Q=>T m σ fun v σ'=>∃i,v=.int i/\Q (some i) σ'
theorem HP.none:HP C sc k Option.none sG:=⟨fun env A s m σ Q P E en ao R F q hP=>wpAny_pure (hP Option.none Option.none σ s rfl R Step.refl q)⟩
theorem yU {e:Expr} {T:ET} (he:HE C sc k e T):HP C sc k (some e) (sF T):=⟨fun env A s m σ Q P E en ao R F q hP=>
 he.run env A s m σ _ _ E en ao R F q fun v w σ' s' hv R' S' q'=>by
  obtain ⟨i,rfl,q'⟩:=q'
  cases hv with
  |int i t=>exact hP (Option.some i) (Option.some (i,t)) σ' s' rfl R' S' q'⟩
theorem mP {α:Type} (l:List α) (lo hi:Option Int):(aL l lo hi).length<=l.length:=by
 unfold aL;rw[List.length_take,List.length_drop];exact Nat.le_trans (Nat.min_le_right _ _) (Nat.sub_le _ _)
theorem VRels.cut {aS:Addr} {h:Heap} {vs:List V} {ws:List Value} (x:VRels aS h vs ws) (a b:Nat):VRels aS h ((vs.drop a).take b) ((ws.drop a).take b):=by
 have hd:∀(a:Nat) {vs:List V} {ws:List Value},VRels aS h vs ws->VRels aS h (vs.drop a) (ws.drop a):=by
  intro a
  induction a with
  |zero=>intro vs ws x;exact x
  |succ a ih=>intro vs ws x;cases x with
   |nil=>exact .nil
   |cons _ r=>exact ih r
 have ht:∀(b:Nat) {vs:List V} {ws:List Value},VRels aS h vs ws->VRels aS h (vs.take b) (ws.take b):=by
  intro b
  induction b with
  |zero=>intro vs ws x;exact .nil
  |succ b ih=>intro vs ws x;cases x with
   |nil=>exact .nil
   |cons a r=>exact .cons a (ih r)
 exact ht b (hd a x)
@[reducible] noncomputable def xq (ns:List Int) (T:ET) (L U:aq->ae->(Option Int->ae->Prop)->Prop):ET:=fun m σ Q=>T m σ fun v σ₁=>L m σ₁ fun lo σ₂=>U m σ₂ fun hi σ₃=>mz ns lo hi v σ₃ Q
theorem HE.cut (O:C.Ok) {value:Expr} {lower upper:Option Expr} {p pos:Pos} {T:ET} {L U:aq->ae->(Option Int->ae->Prop)->Prop} (hv:HE C sc k value T) (hl:HP C sc k lower L) (hu:HP C sc k upper U) :
  HE C sc k (.Subscript value (.Slice lower upper Option.none p) pos) (xq C.ns T L U):=by
 refine⟨?_⟩;intro env A s m σ Q P E en ao R F q hP
 rw[eval_Subscript]
 refine wpAny_bind (hv.run env A s m σ _ _ E en ao R F q fun v w σ₁ s₁ va R₁ S₁ q₁=>wpAny_bind (wpAny_holding (wpAny_Slice ?_)))
 have F₁:=F.step R S₁
 refine hl.run env A s₁ m σ₁ _ _ E en ao R₁ F₁ q₁ fun lo pl σ₂ s₂ el R₂ S₂ q₂=>?_
 refine hu.run env A s₂ m σ₂ _ _ E en ao R₂ (F₁.step R₁ S₂) q₂ fun hi pu σ₃ s₃ eu R₃ S₃ q₃=>?_
 rw[evalPart_none]
 refine wpAny_pure (wpAny_bind (wpAny_standAt ?_))
 have va₃:=(va.keep (S₂.tupsN R₁)).keep (S₃.tupsN R₂)
 have S₁₃:=(S₁.trans S₂).trans S₃
 have Rs:RelG C σ₃ {s₃ with heap:=s₃.heap.push {cls:=.type "slice",data:=.fields #[partValue pl,partValue pu,.none]}}:=R₃.grow (tk:=s₃.toks) ay
 have part:∀p:Option (Int×Tok),IsPart (partValue p) (p.map (·.1)):=fun p=>by
  cases p with
  |none=>exact .none
  |some x=>exact .int _ _
 have go:∀{T id:String} {o:Value} {s:Shared},s.TypeIs o T->typeLookup (.type T) "__getitem__"=pure (some (.builtin id))->∀{i:Value},wpAny (model C.prog C.w) A (getItem o i) P E s->
   wpAny (model C.prog C.w) A ((getitemInPython o >>=fun b=>subscripted (.Slice lower upper Option.none p) b o i) >>=fun r=>letTemporaryGo value o r >>=fun _=>pure r) P E s:=fun {T id o s} hT hl {i} hg=>by
  refine wpAny_bind (wpAny_bind ?_)
  rw[getitemInPython_of_ne hT.not_modules]
  refine wpAny_bind (wpAny_specialOf hT hl (wpAny_pure ?_))
  show wpAny _ A (operate [i,o] (getItem o i)) _ _ _
  exact wpAny_operating (wpAny_mono hg (fun r s' hr=>wpAny_bind (wpAny_letTemporaryGo (wpAny_pure hr))) fun _ _ x=>x)
 have fin:∀{o i:Value} {s:Shared},wpAny (model C.prog C.w) A ((getitemInPython o >>=fun b=>subscripted (.Slice lower upper Option.none p) b o i) >>=fun r=>letTemporaryGo value o r >>=fun _=>pure r) P E s->
   wpAny (model C.prog C.w) A (getitemInPython o >>=fun b=>subscripted (.Slice lower upper Option.none p) b o i >>=fun r=>letTemporaryGo value o r >>=fun _=>pure r) P E s:=fun h=>by rwa [bind_assoc] at h
 have pick:∀(ws:List Value),slicePick ws.toArray lo hi Option.none=(aL ws lo hi).toArray:=fun ws=>by
  rw[slicePick_plain];simp[aL,gS]
 have lists:∀(a:Addr) (vs:List V) (ws:List Value),s₃.heap.IsList a ws.toArray->VRels C.aS s₃.heap vs ws->vs.length<=16777216->bq (aL vs lo hi) σ₃ Q->
   wpAny (model C.prog C.w) A (getitemInPython (.ref a) >>=fun b=>subscripted (.Slice lower upper Option.none p) b (.ref a) (.ref s₃.heap.objs.size) >>=fun r=>letTemporaryGo value (.ref a) r >>=fun _=>pure r) P E {s₃ with heap:=s₃.heap.push {cls:=.type "slice",data:=.fields #[partValue pl,partValue pu,.none]}}:=fun a vs ws hla hvs hz qn=>by
  refine fin (go (hla.push _).typeIs slot_list_getitem.lookup (wpAny_getItem_list_slice (lo:=lo) (hi:=hi) (st:=Option.none) (hla.push _) (Heap.IsSliceOf.new ..) (el▸part pl) (eu▸part pu) .none (by simp) ?_ (by rw[List.size_toArray,<-hvs.length,sizeLine_eq];exact hz)))
  rw[pick]
  have hn:=aH (s₃.heap.push {cls:=.type "slice",data:=.fields #[partValue pl,partValue pu,.none]})
  refine hP _ _ (am σ₃ _ (.list (aL vs lo hi))) _ (.ref _) (Rs.add (tk:=s₃.toks) ay hn ⟨Nat.le_trans (mP vs lo hi) hz,aL ws lo hi,⟨_,Heap.get?_push_size _ rfl⟩,?_⟩) ((S₁₃.trans .push).trans .addPush) (qn _ (Rs.freshNone hn))
  have:=(hvs.cut (gS vs.length lo hi).1 (gS vs.length lo hi).2).keep (h':=(s₃.heap.push {cls:=.type "slice",data:=.fields #[partValue pl,partValue pu,.none]}).push {cls:=.type "list",data:=.seq (aL ws lo hi).toArray}) fun _ _ e _=>ay _ _ (ay _ _ e)
  have e2:aL ws lo hi=(ws.drop (gS vs.length lo hi).1).take (gS vs.length lo hi).2:=by unfold aL;rw[hvs.length]
  rw[<-e2] at this
  exact this
 show wpAny _ A (getitemInPython w >>=fun b=>subscripted (.Slice lower upper Option.none p) b w (.ref s₃.heap.objs.size) >>=fun r=>letTemporaryGo value w r >>=fun _=>pure r) P E _
 cases va₃ with
 |none=>exact q₃.elim
 |bool=>exact q₃.elim
 |int=>exact q₃.elim
 |ty=>exact q₃.elim
 |tup=>exact q₃.elim
 |script=>
  refine x1_3 O.script fun ws h1 h2 h3=>?_
  have hl:s₃.heap.IsList C.aS ws.toList.toArray:=by simpa using (h1.at fun o e=>R₃.base _ _ e)
  have hvs:VRels C.aS s₃.heap (C.ns.map .int) ws.toList:=by
   have:∀(ns:List Int) (l:List Value),l.length=ns.length->(∀(i:Nat) n,ns[i]?=Option.some n->∃t,l[i]?=Option.some (Value.int n t))->VRels C.aS s₃.heap (ns.map .int) l:=by
    intro ns
    induction ns with
    |nil=>intro l hl _;cases l with | nil=>exact .nil | cons=>simp at hl
    |cons n r ih=>intro l hl h;cases l with
     |nil=>simp at hl
     |cons w r'=>
      refine x1_1 (h 0 n rfl) fun t ht=>?_
      simp at ht;subst ht
      exact .cons (.int n t) (ih r' (by simpa using hl) fun i n hi=>h (i+1) n (by simpa using hi))
   exact this _ _ h2 h3
  refine lists _ _ _ hl hvs (by have:=O.few;simp;exact Nat.le_trans this (by decide)) ?_
  have e:aL (C.ns.map V.int) lo hi=(aL C.ns lo hi).map .int:=by unfold aL;simp[List.map_take,List.map_drop]
  rw[e];exact q₃
 |ref a=>
  refine x1_2 q₃ fun xs hx qn=>?_;clear q₃
  obtain ⟨hz,ws,h1,h2⟩:=R₃.view a _ hx
  exact lists a xs ws h1.isList h2 hz qn
 |str=>exact q₃.elim
end
set_option tactic.hygienic false
section
variable {C:Cx} {sc:Scope} {k:Nat}
@[reducible] noncomputable def pQ (op:aK) (o:V) (Q:V->ae->Prop):List V->ae->Prop:=fun vs σ=>op (o::vs) σ Q
@[reducible] noncomputable def t8 (ty:V->ae->Prop) (op:aK) (L:LT) (m:aq) (Q:V->ae->Prop):V->ae->Prop:=fun o σ=>ty o σ/\L m σ (pQ op o Q)
@[reducible] noncomputable def co (ty:V->ae->Prop) (op:aK) (T:ET) (L:LT):ET:=fun m σ Q=>T m σ (t8 ty op L m Q)
noncomputable def rX (C:Cx) (T:String) (ty:V->ae->Prop):Prop:=∀(o:V) (wo:Value) (σ:ae) (s:Shared),RelG C σ s->VRel C.aS s.heap o wo->ty o σ->s.TypeIs wo T/\∀a,wo=.ref a->∃ob,s.heap.get? a=some ob/\ob.dict=Option.none
theorem bY {T id:String} {name:Str} {o:Expr} {apos pos:Pos} {es:List Expr} {ty:V->ae->Prop} {op:aK} {To:ET} {L:LT} (hty:rX C T ty) (pa:PlainAttrs T) (slot:Slot T name id) (hmd:typeOf (.builtin id)=pure (.type "method_descriptor"))
  (hop:OpN C k (fun ws=>PySem.call (.builtin id) ws) op) (ho:HE C sc k o To) (hl:HL C sc k es L) (hp:ah es=true)
  (hbase:∀env,attributeBase o name env (eval o env)=eval o env) (hline:(apos.endLine == pos.line)=true) (hfew:es.length < 30):HE C sc k (.Call (.Attribute o name apos) es [] pos) (co ty op To L):=by
 refine⟨?_⟩;intro env A s m σ Q P E en ao R F q hP
 have hall:(backTo pos (starEach es env)).all (fun x=>!x.1)=true:=by
  have:=aA (env:=env) (pos:=pos) hp
  rw[List.any_eq_false] at this
  rw[List.all_eq_true]
  intro x hx
  have:=this x hx
  simp at this
  simp[this]
 refine wpAny_Call_method (hbase env) (by rw[hall];exact decide_eq_true hfew) hline pa slot hmd ?_
 refine ho.run env A s m σ _ _ E en ao R F q fun v w σ₁ s₁ hv R₁ S₁ q₁=>?_
 refine bH (hty v w σ₁ s₁ R₁ hv q₁.1) fun h1 h2=>?_
 refine⟨h1,h2,Calls.callWith_builtin (aA hp) (au hp (hl.run env A s₁ m σ₁ pos _ _ E en ao R₁ (F.step R S₁) q₁.2 fun vs ws σ₂ s₂ hvs R₂ S₂ q₂=>?_))⟩
 exact hop A s₂ σ₂ (v::vs) (w::ws) Q P E ao R₂ (.cons (hv.keep (S₂.tupsN R₁)) hvs) q₂ fun v' w' σ' s' hv' R' S' q'=>hP v' w' σ' s' hv' R' ((S₁.trans S₂).trans S') q'
noncomputable def jg:V->ae->Prop
 |.str _,_=>True
 |_,_=>False
theorem fw:rX C "str" jg:=by
 intro o wo σ s R hv h
 cases hv<;>first | exact h.elim | skip
 exact⟨typeIs_str _ _ _,fun a e=>by cases e⟩
noncomputable def d7:V->ae->Prop
 |.ref a,σ=>∃xs,σ a=some (.list xs)
 |_,_=>False
theorem gU:rX C "list" d7:=by
 intro o wo σ s R hv h
 cases hv<;>first | exact h.elim | skip
 refine x1_1 h fun xs hx=>?_;clear h
 obtain ⟨_,ws,h1,h2⟩:=R.view _ _ hx
 refine⟨h1.isList.typeIs,fun b e=>?_⟩
 cases e
 refine x1_1 h1 fun n hn=>?_;clear h1
 exact⟨_,hn,rfl⟩
theorem VRels.inv1 {aS:Addr} {h:Heap} {a:V} {ws:List Value} (x:VRels aS h [a] ws):∃wa,ws=[wa]/\VRel aS h a wa:=by
 cases x with
 |cons h1 r=>cases r;exact⟨_,rfl,h1⟩
theorem VRels.inv2 {aS:Addr} {h:Heap} {a b:V} {ws:List Value} (x:VRels aS h [a,b] ws):∃wa wb,ws=[wa,wb]/\VRel aS h a wa/\VRel aS h b wb:=by
 cases x with
 |cons h1 r=>obtain ⟨wb,rfl,h2⟩:=r.inv1;exact⟨_,_,rfl,h1,h2⟩
noncomputable def jo:aK:=fun vs σ Q=>onSS vs fun x y=>Q (.bool (Txt.startswith x y)) σ
theorem nj:OpN C k (fun ws=>PySem.call (.builtin "str.startswith") ws) jo:=by
 intro A s σ vs ws Q P E ao R hv q hP
 replace q:=onSS.elim q
 obtain ⟨n0,n1,rfl,q⟩:=q
 ·obtain ⟨wa,wb,rfl,h1,h2⟩:=hv.inv2
  obtain ⟨_,rfl⟩:=h1.invStr;obtain ⟨_,rfl⟩:=h2.invStr
  exact SC.startswith (hP _ _ σ s (.bool _) R Step.refl q)
theorem lW {aS:Addr} {h:Heap}:∀{ys:List Str} {ws:List Value},VRels aS h (ys.map .str) ws->∃l:List (Str×Tok),ws=strValues l/\l.map (·.1)=ys
 |[],_,r=>⟨[],r.inv0,rfl⟩
 |y::ys,_,r=>by
  obtain ⟨w,ws,rfl,h1,r2⟩:=r.invC
  obtain ⟨t,rfl⟩:=h1.invStr
  obtain ⟨l,rfl,rfl⟩:=lW r2
  exact⟨(y,t)::l,rfl,rfl⟩
theorem jk {aS:Addr} {h:Heap}:∀(l:List (Str×Tok)),VRels aS h ((l.map (·.1)).map .str) (strValues l)
 |[]=>.nil
 |(x,t)::l=>.cons (.str x t) (jk l)
noncomputable def iq:aK:=fun vs σ Q=>onSR vs fun x a=>∃ys:List Str,σ a=some (.list (ys.map .str))/\(ys.map (·.length)).sum+ys.length*x.length<=16777216/\Q (.str (Str.join x ys)) σ
theorem hJ (x:Str):∀(l:List Str) (n:Nat),l.foldl (fun a y=>a+y.length+x.length) n=n+(l.map (·.length)).sum+l.length*x.length
 |[],n=>by simp
 |y::r,n=>by
  rw[List.foldl_cons,hJ x r]
  simp[Nat.add_mul];exact Nat.le_antisymm (gY fun hg=>lN [n,(y.length),(x.length),((List.map (fun x=>x.length) r).sum),(r.length*x.length)] 0x41cc520000019003940400061 rfl hg) (gY fun hg=>lN [n,(y.length),(x.length),((List.map (fun x=>x.length) r).sum),(r.length*x.length)] 0x3200728080020e62900000061 rfl hg)
theorem ls (x:Str):∀ys:List Str,Builtin.Str.glued x ys=Str.join x ys:=by
 have key:∀(r:List Str) (acc:Array Nat),(⟨r.foldl (fun acc p=>acc++x.cps++p.cps) acc⟩:Str)=match r with | []=>⟨acc⟩ | _=>(⟨acc⟩:Str)++x++Str.join x r:=by
  intro r
  induction r with
  |nil=>intro acc;rfl
  |cons y r ih=>
   intro acc
   rw[List.foldl_cons,ih]
   cases r with
   |nil=>rfl
   |cons z r=>
    show (⟨acc++x.cps++y.cps⟩:Str)++x++Str.join x (z::r)=(⟨acc⟩:Str)++x++(y++x++Str.join x (z::r))
    have:∀a b:Str,a++b=⟨a.cps++b.cps⟩:=fun _ _=>rfl
    simp only[this,Array.append_assoc]
 intro ys
 cases ys with
 |nil=>rfl
 |cons y r=>
  unfold Builtin.Str.glued
  simp only[List.drop_one,List.tail_cons,List.headD_cons]
  rw[key]
  cases r with
  |nil=>rfl
  |cons z r=>rfl
theorem rt:OpN C k (fun ws=>PySem.call (.builtin "str.join") ws) iq:=by
 intro A s σ vs ws Q P E ao R hv q hP
 replace q:=onSR.elim q
 obtain ⟨x,a,rfl,q⟩:=q
 ·obtain ⟨wa,wb,rfl,h1,h2⟩:=hv.inv2
  obtain ⟨_,rfl⟩:=h1.invStr;obtain rfl:=h2.invRef
  refine x1_3 q fun ys hy hl q=>?_
  obtain ⟨_,ws,h3,h4⟩:=R.view a _ hy
  obtain ⟨l,rfl,e⟩:=lW h4
  refine SC.join (texts:=ys) h3.isList e ?_ fun t' tk=>?_
  ·unfold JoinOk Builtin.Str.tooLong
   rw[<-Array.foldl_toList,hJ]
   rw[sizeLine_eq]
   simp
   exact hl
  ·have:Txt.join x ys=Str.join x ys:=ls x ys
   rw[this]
   exact hP _ _ σ _ (.str _ _) (R.tok _) Step.refl q
noncomputable def lY:aK:=fun vs σ Q=>onSS vs fun x y=>(y.length=1/\x.length<=1048576)/\bq ((Txt.split x y).map .str) σ Q
theorem ey {A:Around} {s:Shared} {σ:ae} {xs:List V} {ws:List Value} {tk:Nat} {Q:V->ae->Prop} {P:Value->Shared->Prop} (R:RelG C σ s) (hv:VRels C.aS s.heap xs ws) (hz:xs.length<=16777216) (q:bq xs σ Q) (hP:r8 C σ s Q P) :
  P (.ref s.heap.objs.size) {s with heap:=s.heap.push {cls:=.type "list",data:=.seq ws.toArray},toks:=tk}:=by
 have hn:=aH s.heap
 exact hP _ _ (am σ s.heap.objs.size (.list xs)) _ (.ref _) (R.add (tk:=tk) ay hn ⟨hz,ws,⟨_,Heap.get?_push_size _ rfl⟩,hv.keep fun _ _ e _=>ay _ _ e⟩) .addPush (q _ (R.freshNone hn))
theorem pA:OpN C k (fun ws=>PySem.call (.builtin "str.split") ws) lY:=by
 intro A s σ vs ws Q P E ao R hv q hP
 replace q:=onSS.elim q
 obtain ⟨x,y,rfl,q⟩:=q
 ·obtain ⟨wa,wb,rfl,h1,h2⟩:=hv.inv2
  cases h1 with | str _ t=>cases h2 with | str _ u=>
  obtain ⟨⟨hy,hx⟩,q⟩:=q
  have hy0:(y.length == 0)=false:=by simp[hy]
  have hsz:(Builtin.Str.partsBetween x (Builtin.Str.occurrences x y 0 x.length (x.length+1)) y.length).length<=1048578:=by
   rw[length_partsBetween]
   have:=StrLaws.occ_length_le x y 0 x.length (x.length+1)
   exact Nat.succ_le_succ (Nat.le_trans this (Nat.succ_le_succ hx))
  have single:Txt.split x y=[x]->P (.ref s.heap.objs.size) {s with heap:=s.heap.push {cls:=.type "list",data:=.seq [Value.str x t].toArray}}:=fun e=>by
   rw[e] at q
   exact ey (A:=A) (tk:=s.toks) R (.cons (.str x t) .nil) (by simp) q hP
  cases h1:(decide (x.length < y.length)||decide (Builtin.Str.strKind x < Builtin.Str.strKind y))
  ·cases hf:(Builtin.Str.occurrences x y 0 x.length (x.length+1)).isEmpty
   ·refine call_meets _root_.PySem.F.slot_str_split (typeIs_str _ _ _) _root_.PySem.F.entry_str_split (_root_.PySem.F.args_str_split_2 _ _) (meets_str_split_sep x y t u h1 hy0 hf (by rw[sizeLine_eq];exact Nat.le_trans hx (by decide)) (by rw[sizeLine_eq];exact Nat.le_trans hsz (by decide))) ?_
    have e:Txt.split x y=Builtin.Str.partsBetween x (Builtin.Str.occurrences x y 0 x.length (x.length+1)) y.length:=by unfold Txt.split;rw[h1,hf];rfl
    rw[e] at q
    show wants P E _ {s with toks:=_,heap:=s.heap.push {cls:=.type "list",data:=.seq (strsFrom s.toks (Builtin.Str.partsBetween x (Builtin.Str.occurrences x y 0 x.length (x.length+1)) y.length)).toArray}}
    rw[strsFrom_eq]
    refine ey (A:=A) R ?_ (by rw[List.length_map];exact Nat.le_trans hsz (by decide)) q hP
    have:=jk (aS:=C.aS) (h:=s.heap) (numbered s.toks (Builtin.Str.partsBetween x (Builtin.Str.occurrences x y 0 x.length (x.length+1)) y.length))
    rw[numbered_texts] at this
    exact this
   ·exact call_meets _root_.PySem.F.slot_str_split (typeIs_str _ _ _) _root_.PySem.F.entry_str_split (_root_.PySem.F.args_str_split_2 _ _) (meets_str_split_not_found x y t u h1 hy0 hf) (single (by unfold Txt.split;rw[h1,hf];rfl))
  ·exact call_meets _root_.PySem.F.slot_str_split (typeIs_str _ _ _) _root_.PySem.F.entry_str_split (_root_.PySem.F.args_str_split_2 _ _) (meets_str_split_cannot_occur x y t u h1) (single (by unfold Txt.split;rw[h1];rfl))
noncomputable def lj (σ:ae) (Q:V->ae->Prop):Option AObj->Prop
 |some (.list xs)=>Q (.int xs.length) σ
 |some (.dict kvs _)=>Q (.int kvs.length) σ
 |some (.idict kvs _)=>Q (.int kvs.length) σ
 |_=>False
noncomputable def eT (ns:List Int):aK
 |[.str x],σ,Q=>x.length<=16777216/\Q (.int x.length) σ
 |[.ref a],σ,Q=>lj σ Q (σ a)
 |[.tup vs],σ,Q=>vs.length<=16777216/\Q (.int vs.length) σ
 |[.script],σ,Q=>Q (.int ns.length) σ
 |_,_,_=>False
theorem il {n:Nat} (h:n<=16777216):(n:Int) < 2 ^ 63:=Int.lt_of_le_of_lt (Int.ofNat_le.mpr h) (by decide)
theorem tR (O:C.Ok):OpN C k (fun ws=>PySem.call (.builtin "len") ws) (eT C.ns):=by
 intro A s σ vs ws Q P E ao R hv q hP
 cases vs with
 |nil=>exact (show False from q).elim
 |cons v r=>
 cases r with
 |cons u r=>cases v<;>exact (show False from q).elim
 |nil=>
 obtain ⟨wa,rfl,h1⟩:=hv.inv1
 have fin:∀(n:Int) (t tk:Tok),Q (.int n) σ->P (.int n t) {s with toks:=tk}:=fun n t tk q=>hP _ _ σ _ (.int _ _) (R.tok _) Step.refl q
 clear hP
 cases h1 with
 |str x t=>exact _root_.PySem.P.len_str (Int.not_le.mpr (il q.1)) (fin _ _ _ q.2)
 |ref a=>
  have q:lj σ Q (σ a):=q
  cases hx:σ a with
  |none=>rw[hx] at q;exact q.elim
  |some o=>
   rw[hx] at q
   cases o with
   |list xs=>
    obtain ⟨hz,ws,h1,h2⟩:=R.view _ _ hx
    have e:=h2.length
    refine Calls.call_len_list h1.isList (by rw[List.size_toArray,<-e];exact il hz) ?_
    rw[List.size_toArray,<-e]
    exact fin _ _ _ q
   |dict kvs ep=>
    obtain ⟨hz,ws,h1,h2⟩:=R.view _ _ hx
    have e:=h2.length
    refine call_len_dict (O.noMods (R.apart _ (by rw[hx];simp))) h1.dictOf (by rw[<-e];exact il hz) ?_
    rw[<-e]
    exact fin _ _ _ q
   |idict kvs ep=>
    obtain ⟨hz,ws,h1,h2⟩:=R.view _ _ hx
    have e:=h2.length
    refine call_len_dict (O.noMods (R.apart _ (by rw[hx];simp))) h1.dictOf (by rw[<-e];exact il hz) ?_
    rw[<-e]
    exact fin _ _ _ q
   |_=>exact (show False from q).elim
 |@tup vs a ws ht hvs=>
  have e:=hvs.length
  refine PyProof.Rows.len_tuple (show PyProof.Rows.IsTup s.heap a ws.toArray from ht) (by rw[List.size_toArray,<-e];exact il q.1) ?_
  rw[List.size_toArray,<-e]
  exact fin _ _ _ q.2
 |script=>
  refine x1_3 O.script fun ws h1 h2 h3=>?_
  have hl:s.heap.IsList C.aS ws:=h1.at fun o e=>R.base _ _ e
  have e:(ws.size:Int)=C.ns.length:=by rw[<-h2];simp
  refine Calls.call_len_list hl (by rw[e];exact il (Nat.le_trans O.few (by decide))) ?_
  rw[e]
  exact fin _ _ _ q
 |_=>exact (show False from q).elim
noncomputable def on:V->ae->String->Option Bool
 |.bool _,_,T=>if T="bool" then some true else if T="int" then some true else if T∈["str","list","dict","tuple"] then some false else Option.none
 |.int _,_,T=>if T="int" then some true else if T∈["bool","str","list","dict","tuple"] then some false else Option.none
 |.str _,_,T=>if T="str" then some true else if T∈["bool","int","list","dict","tuple"] then some false else Option.none
 |.tup _,_,T=>if T="tuple" then some true else if T∈["bool","int","list","dict","str"] then some false else Option.none
 |.ref a,σ,T=>match σ a with
  |some (.list _)=>if T="list" then some true else if T∈["bool","int","tuple","dict","str"] then some false else Option.none
  |some (.dict _ _)=>if T="dict" then some true else if T∈["bool","int","tuple","list","str"] then some false else Option.none
  |_=>Option.none
 |_,_,_=>Option.none
noncomputable def bu:aK:=fun vs σ Q=>onVT vs fun v T=>∃r,on v σ T=some r/\Q (.bool r) σ
theorem qF {M:String->Prop} {a b c d e:String} (h1:M a) (h2:M b) (h3:M c) (h4:M d) (h5:M e):∀T∈[a,b,c,d,e],M T:=by
 intro T h
 simp only[List.mem_cons,List.not_mem_nil,or_false] at h
 rcases h with rfl | rfl | rfl | rfl | rfl<;>assumption
theorem Ac {M:String->Prop} {a b c d:String} (h1:M a) (h2:M b) (h3:M c) (h4:M d):∀T∈[a,b,c,d],M T:=by
 intro T h
 simp only[List.mem_cons,List.not_mem_nil,or_false] at h
 rcases h with rfl | rfl | rfl | rfl<;>assumption
theorem ca {M:String->Prop} {r:Bool} {T t:String} {l:List String} (hr:(if T=t then some true else if T∈l then some false else Option.none)=some r) (h1:r=true->M t) (h2:r=false->∀T∈l,M T):M T:=by
 split at hr
 ·rename_i e;cases Option.some.inj hr;rw[e];exact h1 rfl
 ·split at hr
  ·rename_i e;cases Option.some.inj hr;exact h2 rfl T e
  ·cases hr
theorem nR {M:String->Prop} {r:Bool} {T t u:String} {l:List String} (hr:(if T=t then some true else if T=u then some true else if T∈l then some false else Option.none)=some r) (h1:r=true->M t) (h3:r=true->M u) (h2:r=false->∀T∈l,M T):M T:=by
 split at hr
 ·rename_i e;cases Option.some.inj hr;rw[e];exact h1 rfl
 ·exact ca hr h3 h2
theorem tS:OpN C k (fun ws=>PySem.call (.builtin "isinstance") ws) bu:=by
 intro A s σ vs ws Q P E ao R hv q hP
 replace q:=onVT.elim q
 obtain ⟨v,T,rfl,q⟩:=q
 ·obtain ⟨wa,wb,rfl,h1,h2⟩:=hv.inv2
  obtain rfl:=h2.invTy
  refine x1_2 q fun r hr q=>?_
  have p0:r=true->P (.bool true) s:=fun e=>hP _ _ σ _ (.bool true) R Step.refl (e▸q)
  have p1:r=false->P (.bool false) {s with toks:=s.toks+1}:=fun e=>hP _ _ σ _ (.bool false) (R.tok _) Step.refl (e▸q)
  unfold on at hr
  split at hr
  ·obtain rfl:=h1.invBool
   refine nR (M:=fun T=>wpAny (model C.prog C.w) A (PySem.call (.builtin "isinstance") [_,.type T]) P E s) hr ?_ ?_ ?_
   ·intro e;exact IsiPair.bool_bool (p0 e)
   ·intro e;exact IsiPair.bool_int (p0 e)
   ·intro e;refine Ac ?_ ?_ ?_ ?_
    ·exact IsiPair.bool_str (p1 e)
    ·exact IsiPair.bool_list (p1 e)
    ·exact IsiPair.bool_dict (p1 e)
    ·exact IsiPair.bool_tuple (p1 e)
  ·obtain ⟨_,rfl⟩:=h1.invInt
   refine ca (M:=fun T=>wpAny (model C.prog C.w) A (PySem.call (.builtin "isinstance") [_,.type T]) P E s) hr ?_ ?_
   ·intro e;exact IsiPair.int_int (p0 e)
   ·intro e;refine qF ?_ ?_ ?_ ?_ ?_
    ·exact IsiPair.int_bool (p1 e)
    ·exact IsiPair.int_str (p1 e)
    ·exact IsiPair.int_list (p1 e)
    ·exact IsiPair.int_dict (p1 e)
    ·exact IsiPair.int_tuple (p1 e)
  ·obtain ⟨_,rfl⟩:=h1.invStr
   refine ca (M:=fun T=>wpAny (model C.prog C.w) A (PySem.call (.builtin "isinstance") [_,.type T]) P E s) hr ?_ ?_
   ·intro e;exact IsiPair.str_str (p0 e)
   ·intro e;refine qF ?_ ?_ ?_ ?_ ?_
    ·exact IsiPair.str_bool (p1 e)
    ·exact IsiPair.str_int (p1 e)
    ·exact IsiPair.str_list (p1 e)
    ·exact IsiPair.str_dict (p1 e)
    ·exact IsiPair.str_tuple (p1 e)
  ·cases h1 with
   |@tup _ a ws ht hvs=>
   refine x1_3 ht fun o ho hc _=>?_;clear ht
   refine ca (M:=fun T=>wpAny (model C.prog C.w) A (PySem.call (.builtin "isinstance") [_,.type T]) P E s) hr ?_ ?_
   ·intro e;exact IsiPair.tuple_tuple ho hc (p0 e)
   ·intro e;refine qF ?_ ?_ ?_ ?_ ?_
    ·exact IsiPair.tuple_bool ho hc (p1 e)
    ·exact IsiPair.tuple_int ho hc (p1 e)
    ·exact IsiPair.tuple_list ho hc (p1 e)
    ·exact IsiPair.tuple_dict ho hc (p1 e)
    ·exact IsiPair.tuple_str ho hc (p1 e)
  ·obtain rfl:=h1.invRef
   split at hr
   ·rename_i hx
    obtain ⟨hz,ws,⟨n,hn⟩,h2⟩:=R.view _ _ hx
    refine ca (M:=fun T=>wpAny (model C.prog C.w) A (PySem.call (.builtin "isinstance") [_,.type T]) P E s) hr ?_ ?_
    ·intro e;exact IsiPair.list_list hn rfl (p0 e)
    ·intro e;refine qF ?_ ?_ ?_ ?_ ?_
     ·exact IsiPair.list_bool hn rfl (p1 e)
     ·exact IsiPair.list_int hn rfl (p1 e)
     ·exact IsiPair.list_tuple hn rfl (p1 e)
     ·exact IsiPair.list_dict hn rfl (p1 e)
     ·exact IsiPair.list_str hn rfl (p1 e)
   ·rename_i hx
    obtain ⟨hz,ws,⟨o,es,hn,hc,_⟩,h2⟩:=R.view _ _ hx
    refine ca (M:=fun T=>wpAny (model C.prog C.w) A (PySem.call (.builtin "isinstance") [_,.type T]) P E s) hr ?_ ?_
    ·intro e;exact IsiPair.dict_dict hn hc.1 (p0 e)
    ·intro e;refine qF ?_ ?_ ?_ ?_ ?_
     ·exact IsiPair.dict_bool hn hc.1 (p1 e)
     ·exact IsiPair.dict_int hn hc.1 (p1 e)
     ·exact IsiPair.dict_tuple hn hc.1 (p1 e)
     ·exact IsiPair.dict_list hn hc.1 (p1 e)
     ·exact IsiPair.dict_str hn hc.1 (p1 e)
   ·cases hr
  ·cases hr
noncomputable def sv:aK:=fun vs σ Q=>onII vs fun a b=>Q (.int (min a b)) σ
noncomputable def sw:aK:=fun vs σ Q=>onII vs fun a b=>Q (.int (max a b)) σ
theorem tP (hz:C.held=Option.none):OpN C k (fun ws=>PySem.call (.builtin "min") ws) sv:=by
 intro A s σ vs ws Q P E ao R hv q hP
 replace q:=onII.elim q
 obtain ⟨a,b,rfl,q⟩:=q
 ·obtain ⟨wa,wb,rfl,h1,h2⟩:=hv.inv2
  obtain ⟨_,rfl⟩:=h1.invInt;obtain ⟨_,rfl⟩:=h2.invInt
  refine av (min_two_ints (ao.none hz) fun h' tk hk hz=>?_)
  have R':RelG C σ {s with heap:=h',toks:=tk}:=R.grow hk
  have S':Step no σ σ s.heap h':=.grow hk hz
  by_cases c:b < a
  ·rw[if_pos c];exact hP _ _ σ _ (.int _ _) R' S' (by rwa [Int.min_eq_right (by exact Int.le_of_lt c)] at q)
  ·rw[if_neg c];exact hP _ _ σ _ (.int _ _) R' S' (by rwa [Int.min_eq_left (by exact Int.not_lt.mp c)] at q)
theorem tQ (hz:C.held=Option.none):OpN C k (fun ws=>PySem.call (.builtin "max") ws) sw:=by
 intro A s σ vs ws Q P E ao R hv q hP
 replace q:=onII.elim q
 obtain ⟨a,b,rfl,q⟩:=q
 ·obtain ⟨wa,wb,rfl,h1,h2⟩:=hv.inv2
  obtain ⟨_,rfl⟩:=h1.invInt;obtain ⟨_,rfl⟩:=h2.invInt
  refine av (max_two_ints (ao.none hz) fun h' tk hk hz=>?_)
  have R':RelG C σ {s with heap:=h',toks:=tk}:=R.grow hk
  have S':Step no σ σ s.heap h':=.grow hk hz
  by_cases c:b > a
  ·rw[if_pos c];exact hP _ _ σ _ (.int _ _) R' S' (by rwa [Int.max_eq_right (by exact Int.le_of_lt c)] at q)
  ·rw[if_neg c];exact hP _ _ σ _ (.int _ _) R' S' (by rwa [Int.max_eq_left (by exact Int.not_lt.mp c)] at q)
noncomputable def lZ:aK:=fun vs σ Q=>onB vs fun b=>Q (.int (if b then 1 else 0)) σ
theorem tV:OpN C k (fun ws=>PySem.call (.type "int") ws) lZ:=by
 intro A s σ vs ws Q P E ao R hv q hP
 replace q:=onB.elim q
 obtain ⟨n0,rfl,q⟩:=q
 ·obtain ⟨wa,rfl,h1⟩:=hv.inv1
  obtain rfl:=h1.invBool
  exact call_int_bool (hP _ _ σ _ (.int _ _) (R.tok _) Step.refl q)
noncomputable def su:aK:=fun vs σ Q=>onI vs fun i=>i.natAbs.log2 < 1920/\Q (.str (Str.ofString (toString i))) σ
theorem tL:OpN C k (fun ws=>PySem.call (.type "str") ws) su:=by
 intro A s σ vs ws Q P E ao R hv q hP
 replace q:=onI.elim q
 obtain ⟨n0,rfl,q⟩:=q
 ·obtain ⟨wa,rfl,h1⟩:=hv.inv1
  obtain ⟨_,rfl⟩:=h1.invInt
  exact _root_.PySem.P.str_of_int q.1 (hP _ _ σ _ (.str _ _) (R.tok _) Step.refl q.2)
end
set_option tactic.hygienic true
section
variable {C:Cx} {sc:Scope} {k:Nat}
noncomputable def fZ:O2
 |.int x,.int y,σ,Q=>Q (.int (x+y)) σ
 |.str x,.str y,σ,Q=>x.length+y.length<=16777216/\Q (.str (x++y)) σ
 |.ref a,.ref b,σ,Q=>∃xs ys,σ a=some (.list xs)/\σ b=some (.list ys)/\xs.length+ys.length<=16777216/\bq (xs++ys) σ Q
 |_,_,_,_=>False
theorem zA:Op2 C k (binaryOp .Add) fZ:=by
 intro A s σ a b wa wb Q P E ao R va vb q hP
 cases a<;>first | exact q.elim | skip
 all_goals (cases b<;>first | exact q.elim | skip)
 ·obtain ⟨_,rfl⟩:=va.invInt;obtain ⟨_,rfl⟩:=vb.invInt
  exact _root_.PySem.P.add_int (hP _ _ σ _ (.int _ _) (R.tok _) Step.refl q)
 ·obtain ⟨_,rfl⟩:=va.invStr;obtain ⟨_,rfl⟩:=vb.invStr
  exact SB.add (fun t' tk=>hP _ _ σ _ (.str _ _) (R.tok _) Step.refl q.2) (by rw[sizeLine_eq];exact q.1)
 ·rename_i a b
  obtain rfl:=va.invRef;obtain rfl:=vb.invRef
  refine x2_4 q fun xs ys hx hy hz q=>?_
  obtain ⟨_,ws,⟨n,h1⟩,h2⟩:=R.view _ _ hx
  obtain ⟨_,us,⟨n',h3⟩,h4⟩:=R.view _ _ hy
  have e1:=h2.length
  have e2:=h4.length
  have e:ws.toArray++us.toArray=(ws++us).toArray:=by simp
  refine concat_meets ⟨_,h1,rfl⟩ ⟨_,h3,rfl⟩ noFill_list_add seq_list_add _root_.PySem.F.slot_list_add _root_.PySem.F.entry_list_add (_root_.PySem.F.args_list_add_2 _ _)
   (PyProof.Rows.list_addW a b ws.toArray us.toArray n n' Option.none Option.none #[] #[] (by rw[List.size_toArray,List.size_toArray,sizeLine_eq];exact gY fun hg=>lN [(xs.length),(ys.length),(ws.length),(us.length)] 0x7302000000508c25384860c000000a129001 rfl hz (Nat.le_of_eq (Eq.symm e1)) (Nat.le_of_eq (Eq.symm e2)) hg)) ⟨h1,h3,?_⟩
  rw[e]
  exact ey (A:=A) (tk:=s.toks) R (h2.append h4) (by rw[List.length_append];exact hz) q hP
theorem ql {A:Around} {s:Shared} {a b:V} {wa wb:Value} {r:Bool} (h:veq0 a b=some r) (va:VRel C.aS s.heap a wa) (vb:VRel C.aS s.heap b wb):SeqAt.EqAt A s wa wb r:=by
 refine veq0.rel h va vb (SeqAt.EqAt.same _) SeqAt.EqAt.none_str SeqAt.EqAt.str_none SeqAt.EqAt.bool_bool (fun x y t u=>?_) fun x y t u=>?_
 ·rw[<-cU];exact SeqAt.EqAt.int_int _ _ _ _
 ·rw[<-cU];exact SeqAt.EqAt.str_str _ _ _ _
inductive EqBB (σ:ae):V->V->Bool->Prop
 |mk (p q:Addr) (x y:Bool) (hp:σ p=some (.list [.bool x,.bool y])) (hq:σ q=some (.list [.bool true,.bool true])):EqBB σ (.ref p) (.ref q) (x&&y)
noncomputable def ni:O2:=fun a b σ Q=>∃r,(veq0 a b=some r\/EqBB σ a b r)/\Q (.bool r) σ
theorem sR {A:Around} {s:Shared} (x:Bool):SeqAt.EqAt A s (.bool x) (.bool true) x:=by
 have:=SeqAt.EqAt.bool_bool (A:=A) (s:=s) x true
 cases x<;>exact this
theorem AG:Op2 C k (compareOp .Eq) ni:=by
 intro A s σ a b wa wb Q P E ao R va vb ⟨r,hr,q⟩ hP
 rcases hr with z | z
 ·exact t0 A s σ a b wa wb Q P E ao R va vb (.of z q) hP
 ·cases z with | mk p p' x y hx hy=>
  obtain rfl:=va.invRef;obtain rfl:=vb.invRef
  obtain ⟨_,ws,h1,h2⟩:=R.view _ _ hx
  obtain ⟨_,us,h3,h4⟩:=R.view _ _ hy
  obtain ⟨w1,w2,rfl,v1,v2⟩:=h2.inv2
  obtain ⟨u1,u2,rfl,g1,g2⟩:=h4.inv2
  obtain rfl:=v1.invBool;obtain rfl:=v2.invBool;obtain rfl:=g1.invBool;obtain rfl:=g2.invBool
  have hu:A.units < cLine:=Nat.lt_of_le_of_lt (Nat.le_add_right _ _) (Nat.lt_of_le_of_lt (Nat.le_add_right _ _) ao.units)
  have:=SeqAt.RcAt.lists (A:=A) (e:=fun j=>match j with | 0=>x | _=>y) h1.isList h3.isList rfl hu fun j h1 h2=>by
   match j,h1 with
   |0,_=>exact sR x
   |1,_=>exact sR y
  have e:(List.range [Value.bool x,.bool y].toArray.size).all (fun j=>match j with | 0=>x | _=>y)=(x&&y):=by cases x<;>cases y<;>rfl
  rw[e] at this
  exact this _ _ _ _ (hP _ _ σ s (.bool (x&&y)) R Step.refl q)
noncomputable def bW (x:V):List V->Option Bool
 |[]=>some false
 |y::r=>match veq0 y x,bW x r with
  |some a,some b=>some (a||b)
  |_,_=>Option.none
noncomputable def qP:Value->Value->Bool
 |.none,.none=>true
 |.bool a,.bool b=>a == b
 |.int a _,.int b _=>decide (a=b)
 |.str a _,.str b _=>decide (a=b)
 |_,_=>false
theorem qk {s:Shared} {a b:V} {wa wb:Value} {r:Bool} (h:veq0 a b=some r) (va:VRel C.aS s.heap a wa) (vb:VRel C.aS s.heap b wb):qP wa wb=r:=by
 exact veq0.rel h va vb (P:=fun wa wb r=>qP wa wb=r) rfl (fun _ _=>rfl) (fun _ _=>rfl) (fun _ _=>rfl) (fun _ _ _ _=>rfl) fun _ _ _ _=>rfl
theorem fq {s:Shared} {A:Around} {x:V} {wx:Value} (hx:VRel C.aS s.heap x wx) {ys:List V} {ws:List Value} {r:Bool} (h:bW x ys=some r) (hc:VRels C.aS s.heap ys ws) :
  (∀w∈ws,SeqAt.EqAt A s w wx (qP w wx))/\ws.any (fun w=>qP w wx)=r:=by
 revert r
 refine VRels.ind (P:=fun ys ws=>∀{r:Bool},bW x ys=some r->(∀w∈ws,SeqAt.EqAt A s w wx (qP w wx))/\ws.any (fun w=>qP w wx)=r) (fun h=>⟨fun _ hw=>absurd hw List.not_mem_nil,Option.some.inj h⟩) (fun y w ys ws hy _ ih {r} h=>?_) hc
 unfold bW at h
 split at h
 ·rename_i a b h1 h2
  rw[<-Option.some.inj h,List.any_cons,(ih h2).2,qk h1 hy hx]
  refine⟨fun w' hw=>(List.mem_cons.mp hw).elim (fun e=>?_) ((ih h2).1 w'),rfl⟩
  rw[e,qk h1 hy hx];exact ql h1 hy hx
 ·cases h
noncomputable def sJ:O2
 |x,.ref a,σ,Q=>∃ys r,σ a=some (.list ys)/\bW x ys=some r/\Q (.bool r) σ
 |x,.tup ys,σ,Q=>∃r,bW x ys=some r/\Q (.bool r) σ
 |_,_,_,_=>False
noncomputable def jz:O2
 |x,.ref a,σ,Q=>∃ys r,σ a=some (.list ys)/\bW x ys=some r/\Q (.bool (!r)) σ
 |x,.tup ys,σ,Q=>∃r,bW x ys=some r/\Q (.bool (!r)) σ
 |_,_,_,_=>False
theorem tW:Op2 C k (compareOp .In) sJ:=by
 intro A s σ a b wa wb Q P E ao R va vb q hP
 cases b<;>first | exact q.elim | skip
 ·obtain rfl:=vb.invRef
  refine x2_3 q fun ys r hy hr q=>?_
  obtain ⟨_,ws,h1,h2⟩:=R.view _ _ hy
  refine bH (fq (A:=A.in1) va hr h2) fun i1 i2=>?_
  refine SeqAt.in_listAt (fun w=>qP w wa) h1.isList (fun y hy=>i1 y (by simpa using hy)) ?_
  rw[<-Array.any_toList,i2]
  exact hP _ _ σ s (.bool r) R Step.refl q
 ·cases vb with | @tup _ p ws ht hvs=>
  refine x1_2 q fun r hr q=>?_
  refine bH (fq (A:=A.in1) va hr hvs) fun i1 i2=>?_
  refine SeqAt.in_tupleAt (fun w=>qP w wa) ht (fun y hy=>i1 y (by simpa using hy)) ?_
  rw[<-Array.any_toList,i2]
  exact hP _ _ σ s (.bool r) R Step.refl q
theorem nq:Op2 C k (compareOp .NotIn) jz:=by
 intro A s σ a b wa wb Q P E ao R va vb q hP
 cases b<;>first | exact q.elim | skip
 ·obtain rfl:=vb.invRef
  refine x2_3 q fun ys r hy hr q=>?_
  obtain ⟨_,ws,h1,h2⟩:=R.view _ _ hy
  refine bH (fq (A:=A.in1) va hr h2) fun i1 i2=>?_
  refine SeqAt.notIn_listAt (fun w=>qP w wa) h1.isList (fun y hy=>i1 y (by simpa using hy)) ?_
  rw[<-Array.any_toList,i2]
  exact hP _ _ σ s (.bool (!r)) R Step.refl q
 ·cases vb with | @tup _ p ws ht hvs=>
  refine x1_2 q fun r hr q=>?_
  refine bH (fq (A:=A.in1) va hr hvs) fun i1 i2=>?_
  refine SeqAt.notIn_tupleAt (fun w=>qP w wa) ht (fun y hy=>i1 y (by simpa using hy)) ?_
  rw[<-Array.any_toList,i2]
  exact hP _ _ σ s (.bool (!r)) R Step.refl q
noncomputable def b6:aK:=fun vs σ Q=>onRV vs fun a v=>∃xs,σ a=some (.list xs)/\xs.length < 16777216/\Q .none (am σ a (.list (xs++[v])))
theorem nz:OpN C k (fun ws=>PySem.call (.builtin "list.append") ws) b6:=by
 intro A s σ vs ws Q P E ao R hv q hP
 replace q:=onRV.elim q
 obtain ⟨a,v,rfl,q⟩:=q
 ·obtain ⟨wa,wb,rfl,h1,h2⟩:=hv.inv2
  obtain rfl:=h1.invRef
  refine x1_3 q fun xs hx hz q=>?_
  obtain ⟨_,ws,h3,h4⟩:=R.view _ _ hx
  have e:=h4.length
  refine wpAny_list_append_plain h3 (fun h' hp' hs'=>?_) (by rw[List.size_toArray,<-e,sizeLine_eq];(rename_i zz0;exact zz0))
  refine x1_1 h3 fun n hn=>?_;clear h3
  have kt:ar s.heap h':=fun b o eb ht=>hs'.extBut b o (by rintro rfl;rw[hn] at eb;cases eb;simp[d4] at ht) eb
  refine hP .none .none (am σ a (.list (xs++[v]))) _ .none (R.change (tk:=s.toks) hx hs' ⟨by simp;exact Nat.le_of_lt_succ hz,ws++[wb],by simpa using hp',(h4.append (.cons h2 .nil)).keep kt⟩) (.change hx hs') q
@[reducible] noncomputable def zk (op:V->V->V->ae->(ae->Prop)->Prop) (v o:V) (m:aq) (Q:Fl->aq->ae->Prop):V->ae->Prop:=fun i σ=>op o i v σ fun σ₄=>Q .next m σ₄
@[reducible] noncomputable def zl (op:V->V->V->ae->(ae->Prop)->Prop) (Ti:ET) (v:V) (m:aq) (Q:Fl->aq->ae->Prop):V->ae->Prop:=fun o σ=>Ti m σ (zk op v o m Q)
@[reducible] noncomputable def zm (op:V->V->V->ae->(ae->Prop)->Prop) (To Ti:ET) (m:aq) (Q:Fl->aq->ae->Prop):V->ae->Prop:=fun v σ=>To m σ (zl op Ti v m Q)
@[reducible] noncomputable def cC (op:V->V->V->ae->(ae->Prop)->Prop) (T To Ti:ET):ST:=fun m σ Q=>T m σ (zm op To Ti m Q)
noncomputable def OpSet (C:Cx) (k:Nat) (op:V->V->V->ae->(ae->Prop)->Prop):Prop:=
 ∀(A:Around) (s:Shared) (σ:ae) (o i v:V) (wo wi w:Value) (Q:ae->Prop) (P:Unit->Shared->Prop) (E:Value->Shared->Prop),AOk C A k->RelG C σ s->VRel C.aS s.heap o wo->VRel C.aS s.heap i wi->VRel C.aS s.heap v w->op o i v σ Q->
  (∀σ' s',RelG C σ' s'->Step no σ σ' s.heap s'.heap->Q σ'->P () s')->wpAny (model C.prog C.w) A (setItem wo wi w) P E s
theorem sY {o i value:Expr} {p pos:Pos} {op:V->V->V->ae->(ae->Prop)->Prop} {T To Ti:ET} (hop:OpSet C k op) (hv:HE C sc k value T) (ho:HE C sc k o To) (hi:HE C sc k i Ti)
  (hs:∀env,EnvOk env sc->swapsWith value (some (.Subscript o i p)) pos.line env=pure false):HS1 C sc k (.Assign [.Subscript o i p] value pos) (cC op T To Ti):=by
 refine⟨?_⟩;intro env A s m σ Q P E en ao R F q hP
 refine wpAny_Assign_Subscript (hv.run env A s m σ _ _ E en ao R F q fun v w σ₁ s₁ v1 R₁ S₁ q₁=>?_) (hs env en)
 have F₁:=F.step R S₁
 refine ho.run env A s₁ m σ₁ _ _ E en ao R₁ F₁ q₁ fun o wo σ₂ s₂ v2 R₂ S₂ q₂=>?_
 have F₂:=F₁.step R₁ S₂
 refine hi.run env A s₂ m σ₂ _ _ E en ao R₂ F₂ q₂ fun i wi σ₃ s₃ v3 R₃ S₃ q₃=>?_
 have F₃:=F₂.step R₂ S₃
 have k₂:=S₂.tupsN R₁
 have k₃:=S₃.tupsN R₂
 refine hop A s₃ σ₃ o i v wo wi w _ _ E ao R₃ (v2.keep k₃) v3 ((v1.keep k₂).keep k₃) q₃ fun σ₄ s₄ R₄ S₄ q₄=>?_
 have S:=((S₁.trans S₂).trans S₃).trans S₄
 exact hP .next .next m σ₄ s₄ .next R₄ (F.step R S) S.own q₄
noncomputable def tq:V->V->V->ae->(ae->Prop)->Prop:=fun o i v σ Q=>isR o fun a=>isI i fun i=>∃xs j,σ a=some (.list xs)/\iM i xs.length=some j/\Q (am σ a (.list (xs.set j v)))
theorem o0 {A:Around} {s:Shared} {l:Addr} {ws:List Value} {i:Int} {t:Tok} {j:Nat} {v:Value} {P:Unit->Shared->Prop} {E:Value->Shared->Prop} (hl:s.heap.PlainList l ws.toArray) (hi:iM i ws.length=some j) (hz:ws.length<=16777216)
  (hQ:∀h',h'.PlainList l (ws.set j v).toArray->Heap.SameBut l s.heap h'->P () {s with heap:=h'}):wpAny (model C.prog C.w) A (setItem (.ref l) (.int i t) v) P E s:=by
 refine x1_1 (id hl) fun n ho=>?_
 have hT:=hl.isList.typeIs
 have hlt:=iL hi
 have hj:j < ws.length:=hlt.1
 unfold setItem
 try with_reducible refine wpAny_holding ?_
 first | refine wpAny_bind (wpAny_pure ?_) | skip
 refine wpAny_bind (wpAny_sequenceKey hT (by decide) ?_)
 refine wpAny_bind (wpAny_callSpecial?_slot (name:=Str.ofString "__setitem__") hT slot_list_setitem
  (wpAny_call_entry slot_list_setitem hT entry_list_setitem ?_ (args_list_setitem _ _ _)))
 show wpAny _ _ (Builtin.List.listSubscript? (.int i t) >>=_) _ _ s
 have hfit:Builtin.List.listFitsIndex i=true:=by
  by_cases h0:0<=i
  ·exact fitsIndex_of h0 (fits hlt.2.1 hlt.2.2 hz (by decide)).2
  ·exact fitsIndex_neg (by exact Int.not_le.mp h0) (fits hlt.2.1 hlt.2.2 hz (by decide)).1
 refine wpAny_bind (wpAny_listSubscript_int hfit ?_)
 clear hfit
 have hx':ws.toArray[j]?=some ws[j]:=by simp[hj]
 have fin:P () {s with heap:=s.heap.update l (Obj.mapSeq (·.setIfInBounds j v))}:=by
  refine hQ _ ⟨n,?_⟩ (Heap.SameBut.update ..)
  have em:Obj.mapSeq (·.setIfInBounds j v) {cls:=.type "list",data:=.seq ws.toArray n}={cls:=.type "list",data:=.seq (ws.set j v).toArray n}:=by simp[Obj.mapSeq]
  rw[Heap.get?_update_self _ ho (by rw[em];rfl),em]
 by_cases h0:0<=i
 ·have ej:j=i.toNat:=by unfold iM at hi;rw[if_pos h0] at hi;split at hi<;>cases hi;rfl
  obtain ⟨n',rfl⟩:=Int.eq_ofNat_of_zero_le h0
  have ej':j=n':=by simpa using ej
  subst ej'
  show wpAny _ _ ((seqItemAt l j >>=fun r=>pure (r.map (j,·))) >>=_) _ _ s
  refine wpAny_bind (wpAny_bind (wpAny_seqItemAt ho rfl (wpAny_pure ?_)))
  rw[hx']
  show wpAny _ _ (setSeqItemAt l j v >>=_) _ _ s
  refine wpAny_bind (wpAny_setSeqItemAt ho rfl ?_)
  exact wpAny_pure ⟨.none,rfl,wpAny_pure fin⟩
 ·have hidx:=iK hi
  obtain ⟨n',rfl⟩:∃j:Nat,i=Int.negSucc j:=by
   cases i with
   |ofNat n=>exact absurd (Int.natCast_nonneg n) h0
   |negSucc n=>exact⟨n,rfl⟩
  show wpAny _ _ ((Builtin.List.listItems (.ref l) >>=fun xs=>pure ((seqIndex? (Int.negSucc n') xs.size).bind fun i=>xs[i]?.map (i,·))) >>=_) _ _ s
  refine wpAny_bind (wpAny_bind ?_)
  show wpAny _ _ (seqItems? (.ref l) >>=_) _ _ s
  refine wpAny_bind (wpAny_seqItems ho rfl (wpAny_pure (wpAny_pure ?_)))
  rw[List.size_toArray,hidx]
  simp only[Option.bind_some,hx',Option.map_some]
  show wpAny _ _ (setSeqItemAt l j v >>=_) _ _ s
  refine wpAny_bind (wpAny_setSeqItemAt ho rfl ?_)
  exact wpAny_pure ⟨.none,rfl,wpAny_pure fin⟩
theorem VRels.set {aS:Addr} {h:Heap} {vs:List V} {ws:List Value} (x:VRels aS h vs ws) {v:V} {w:Value} (j:Nat) (hv:VRel aS h v w):VRels aS h (vs.set j v) (ws.set j w):=
 VRels.ind (P:=fun vs ws=>∀j,VRels aS h (vs.set j v) (ws.set j w)) (fun _=>.nil) (fun _ _ _ _ a r ih j=>match j with | 0=>.cons hv r | j+1=>.cons a (ih j)) x j
theorem rl:OpSet C k tq:=by
 intro A s σ o i v wo wi w Q P E ao R vo vi vv q hP
 replace q:=isR.elim q
 obtain ⟨a,rfl,q⟩:=q
 replace q:=isI.elim q
 obtain ⟨i,rfl,q⟩:=q
 ·obtain rfl:=vo.invRef;obtain ⟨_,rfl⟩:=vi.invInt
  refine x2_3 q fun xs j hx hj q=>?_
  obtain ⟨hz,ws,h1,h2⟩:=R.view _ _ hx
  refine o0 (j:=j) h1 (by rw[<-h2.length];exact hj) (by rw[<-h2.length];exact hz) fun h' hp' hs'=>?_
  refine x1_1 h1 fun n hn=>?_;clear h1
  have kt:ar s.heap h':=fun b o eb ht=>hs'.extBut b o (by rintro rfl;rw[hn] at eb;cases eb;simp[d4] at ht) eb
  exact hP (am σ a (.list (xs.set j v))) _ (R.change (tk:=s.toks) hx hs' ⟨by simpa using hz,ws.set j w,hp',(h2.set j vv).keep kt⟩) (.change hx hs') q
noncomputable def bJ (l:List (String×Pos)):List Expr:=l.map fun p=>Expr.Name (Str.ofString p.1) p.2
theorem hU (p:String×Pos) (l:List (String×Pos)) (env:Env):assignEach (bJ (p::l)) env=(false,assign (.Name (Str.ofString p.1) p.2) env)::assignEach (bJ l) env:=rfl
theorem dS (env:Env):∀(l:List (String×Pos)),(assignEach (bJ l) env).length=l.length/\(assignEach (bJ l) env).findIdx? (·.1)=Option.none
 |[]=>⟨rfl,rfl⟩
 |p::r=>by
  rw[hU]
  refine⟨by simp[(dS env r).1],?_⟩
  rw[List.findIdx?_cons]
  simp[(dS env r).2]
theorem ke {env:Env} {A:Around} {E:Value->Shared->Prop} (en:EnvOk env sc) (l:List (String×Pos)):∀(vs:List V) (ws:List Value) (s:Shared) (m:aq) (σ:ae) (P:Unit->Shared->Prop),l.length=vs.length->(∀x∈l,sc.names.lookup (Str.ofString x.1)=some .local)->
  RelG C σ s->FrameRel C env m σ s.heap->VRels C.aS s.heap vs ws->
  (∀s',RelG C σ s'->FrameRel C env (bD (l.map (·.1)) vs m) σ s'.heap->Step (fun b=>b=env.locals) σ σ s.heap s'.heap->P () s')->
  wpAny (model C.prog C.w) A (assignInOrder ((assignEach (bJ l) env).map (·.2)) ws) P E s:=by
 induction l with
 |nil=>
  intro vs ws s m σ P h1 h2 R F hv h
  cases vs with
  |nil=>cases hv;exact wpAny_pure (h s R F Step.refl)
  |cons=>simp at h1
 |cons x l ih=>
  intro vs ws s m σ P h1 h2 R F hv h
  cases vs with
  |nil=>simp at h1
  |cons v vs=>
   cases hv with | @cons _ w _ ws hv hvs=>
   rw[hU,List.map_cons]
   have e:assignInOrder (assign (.Name (Str.ofString x.1) x.2) env::(assignEach (bJ l) env).map (·.2)) (w::ws)=(do holding ws (assign (.Name (Str.ofString x.1) x.2) env w);assignInOrder ((assignEach (bJ l) env).map (·.2)) ws):=rfl
   show wpAny _ A (assignInOrder (assign (.Name (Str.ofString x.1) x.2) env::(assignEach (bJ l) env).map (·.2)) (w::ws)) P E s
   rw[e]
   refine wpAny_bind (wpAny_holding (wpAny_assign_Name (bf en R F (h2 x (.head _)) hv fun s₁ R₁ F₁ S₁=>?_)))
   have kt:ar s.heap s₁.heap:=S₁.tups R fun b o z e=>by subst z;exact F.ownT _ o (.inl rfl) e
   exact ih vs ws s₁ (put m x.1 v) σ P (by simpa using h1) (fun y hy=>h2 y (.tail _ hy)) R₁ F₁ (hvs.keep kt) fun s₂ R₂ F₂ S₂=>h s₂ R₂ F₂ (S₁.trans S₂)
theorem FrameRel.grow {env:Env} {m:aq} {σ:ae} {h h':Heap} (F:FrameRel C env m σ h) (keep:∀b o,h.get? b=some o->h'.get? b=some o):FrameRel C env m σ h':=by
 have kt:ar h h':=fun b o e _=>keep b o e
 have kc:∀c v,h.IsCell c v->h'.IsCell c v:=fun c v ⟨o,ho,hd⟩=>⟨o,keep c o ho,hd⟩
 refine x1_2 F.ns fun mm hn hv=>?_
 refine⟨⟨mm,hn.keeps keep,fun x v e k=>?_⟩,fun x v e=>?_,fun n c e=>?_,F.sepL,F.baseL,F.baseC,F.dist,F.has⟩
 ·refine x1_2 (hv x v e k) fun w h1 h2=>?_;exact⟨w,h1,h2.keep kt⟩
 ·rcases F.cel x v e with q | ⟨q,c,w,h1,h2,h3⟩
  ·exact .inl q
  ·exact .inr ⟨q,c,w,h1,kc _ _ h2,h3.keep kt⟩
 ·refine x1_1 (F.cells n c e) fun v hv=>?_;exact⟨v,kc _ _ hv⟩
theorem HT.tup (O:C.Ok) {l:List (String×Pos)} {n:Nat} {pos:Pos} (hx:∀x∈l,sc.names.lookup (Str.ofString x.1)=some .local):HT C sc k true (.Tuple (bJ l) n pos) (.tup (l.map (·.1))):=by
 refine⟨?_⟩;intro env A s m m' σ v w P E en ao R F hv hb hP
 cases v<;>simp only[bG] at hb<;>first | cases hb | skip
 split at hb
 ·rename_i vs hlen
  cases hb
  cases hv with | @tup _ t ws ht hvs=>
  have hlen':l.length=vs.length:=by simpa using hlen
  refine av (rU (ao.hd O R) ht (by rw[(dS env _).1,List.size_toArray,<-hvs.length,hlen']) (dS env _).2 fun h' hx'=>?_)
  have keep:∀b o,s.heap.get? b=some o->h'.get? b=some o:=fun b o e=>hx' b o (Nat.ne_of_lt (Heap.lt_size e)) e
  have e:ws.toArray.toList=ws:=by simp
  rw[e]
  refine ke en l vs ws _ m σ _ hlen' hx (R.grow (tk:=s.toks) keep) (F.grow keep) (hvs.keep fun b o e _=>keep b o e) fun s₂ R₂ F₂ S₂ hsz=>?_
  exact hP s₂ R₂ F₂ ⟨fun b o e n q=>S₂.keepL b o (keep b o e) n fun z=>q (.inl z),hsz,fun _ a b=>absurd a b⟩
 ·cases hb
end
set_option tactic.hygienic false
open PySem.W PyProof.Rows PySem.Calls
noncomputable def eN (p:Program) (n:Nat):List Stmt:=match p.main.body[n]? with | some (.FunctionDef _ _ b _ _ _ _ _ _ _)=>b | _=>[]
noncomputable def aP (p:Program) (n:Nat):Scope:=match p.main.body[n]? with | some (.FunctionDef _ _ _ _ _ _ s _ _ _)=>s | _=>default
noncomputable def iC (p:Program) (n:Nat):Arguments:=match p.main.body[n]? with | some (.FunctionDef _ a _ _ _ _ _ _ _ _)=>a | _=>default
noncomputable def sC (p:Program) (n:Nat):Pos:=match p.main.body[n]? with | some (.FunctionDef _ _ _ _ _ _ _ _ _ q)=>q | _=>default
noncomputable def FnAt (C:Cx) (j:Nat) (f:String) (spec:aK):Prop:=
 ∃a o fd,C.mg (Str.ofString f)=some (.ref a)/\C.hB.get? a=some o/\o.data=.func fd/\FnSound C j a spec
structure Gl (C:Cx) (p:Program):Prop where
 ok:C.Ok
 mb:∀x:Str,x≠"__name__"->C.mb x=bootBuiltins x
 free:∀x∈["len","range","min","max","isinstance","bool","str","int","list","dict","set","sorted","tuple","sum","type"],C.mg (Str.ofString x)=Option.none
 fn:∀d∈recsOf p,∃a o pm code doc,C.mg d.name=some (.ref a)/\C.hB.get? a=some o/\o.data=.func (docDef d.name d.params d.body d.scope pm code doc)/\C.hB.CodeRec code d.name
variable {C:Cx} {p:Program}
theorem Gl.blt (G:Gl C p) {x:String} {v:Value} (h:bootBuiltins (Str.ofString x)=some v) (hx:x≠"__name__"):C.mb (Str.ofString x)=some v:=by
 rw[G.mb _ (fun e=>hx (aX e)),h]
theorem vr (G:Gl C p) {sc:Scope} {k:Nat} {f:String} {np pos:Pos} {es:List Expr} {L:LT} {spec:aK} {j:Nat} (hf:FnAt C j f spec) (hj:j < k)
  (hn:sc.names.lookup (Str.ofString f)=some .globalImplicit) (hdb:(Str.ofString f == ("__debug__":Str))=false)
  (hl:HL C sc k es L) (hp:ah es=true):HE C sc k (.Call (.Name (Str.ofString f) np) es [] pos) (bv spec L):=by
 refine x3_4 hf fun a o fd h1 h2 h3 h4=>?_;clear hf
 exact HE.call G.ok h4 hj hn h1 h2 h3 hdb hl hp
theorem FnAt.mk (G:Gl C p) (i n:Nat) {f:String} {xs:List String} {j:Nat} {spec:aK} {T:ST}
  (hm:(recsOf p)[i]?=some ⟨Str.ofString f,iC p n,eN p n,aP p n,sC p n⟩)
  (hk:(aP p n).kind=.function) (hfr:((aP p n).names.all fun q=>q.2 != .free)=true) (hco:(aP p n).isCoroutine=false) (hgen:(aP p n).isGenerator=false)
  (hbind:∀(ws:List Value) (pm code doc:Value),ws.length=xs.length->bindArgs (docDef (Str.ofString f) (iC p n) (eN p n) (aP p n) pm code doc) ⟨ws,[]⟩=pure ((xs.map Str.ofString).zip ws))
  (hloc:(xs.all fun x=>(aP p n).names.lookup (Str.ofString x) == some .local||(aP p n).names.lookup (Str.ofString x) == some .cell)=true)
  (hT:HS C (aP p n) j (eN p n) T)
  (hspec:∀vs σ Q,spec vs σ Q->vs.length=xs.length/\T (bD xs vs cZ) σ fun f _ σ'=>match f with | .ret v=>Q v σ' | .next=>Q .none σ' | _=>False):FnAt C j f spec:=by
 obtain ⟨a,o,pm,code,doc,h1,h2,h3,h4⟩:=G.fn _ (List.mem_of_getElem? hm)
 refine⟨a,o,_,h1,h2,h3,FnSound.mk G.ok (xs:=xs) h2 h3 h4 rfl rfl rfl rfl rfl hk ?_ hco hgen (fun ws hw=>hbind ws pm code doc hw) ?_ hT hspec⟩
 ·intro q hq
  have:=List.all_eq_true.mp hfr q hq
  simpa using this
 ·intro x hx
  have:=List.all_eq_true.mp hloc x hx
  simp only[Bool.or_eq_true,beq_iff_eq] at this
  exact this
theorem jN {vs:List Value} {ns:List Int} (h:IntsAre vs ns):vs.length=ns.length/\∀(i:Nat) n,ns[i]?=some n->∃t,vs[i]?=some (Value.int n t):=by
 induction h with
 |nil=>exact⟨rfl,fun i n e=>by simp at e⟩
 |cons a t h ih=>
  refine⟨by simp[ih.1],fun i n e=>?_⟩
  cases i with
  |zero=>simp at e;subst e;exact⟨_,rfl⟩
  |succ i=>simpa using ih.2 i n (by simpa using e)
theorem Cx.ok_of {C:Cx} (hz:C.held=none) {vs:List Value} {loose:List Str} {mean:ExcName->Option Value} (T:Top p loose mean C.mg C.mb C.hB) (hi:importsNone p=true) (hL:C.hB.IsList C.aS vs.toArray) (hI:IntsAre vs C.ns) (hn:¬(63:Int) < (C.ns.length:Int)):C.Ok where
 g:=T.g
 b:=T.b
 nolimit:=T.nolimit
 mods:=by obtain ⟨mm,⟨o,_,_,ho,_⟩,_⟩:=(T.seer hi).mods;exact⟨o,ho⟩
 few:=by omega
 heldOk:=fun e he=>by rw[hz] at he;cases he
 script:=⟨_,hL,by simpa using (jN hI).1,by simpa using (jN hI).2⟩
theorem Gl.of {C:Cx} {loose:List Str} {mean:ExcName->Option Value} (T:Top p loose mean C.mg C.mb C.hB) (ok:C.Ok)
  (hf:(["len","range","min","max","isinstance","bool","str","int","list","dict","set","sorted","tuple","sum","type"].all fun x:String=>!(startupNames++loose++(recsOf p).map (·.name)++(litsOf p).map (·.1)++(clssOf p loose).map (·.name)).contains (Str.ofString x))=true):Gl C p where
 ok:=ok
 mb:=T.builtins
 fn:=T.fn
 free:=fun x hx=>by
  have:=List.all_eq_true.mp hf x hx
  simp only[Bool.not_eq_true',List.contains_eq_mem,decide_eq_false_iff_not,List.mem_append,not_or] at this
  obtain ⟨⟨⟨⟨h1,h2⟩,h3⟩,h4⟩,h5⟩:=this
  exact T.free _ h1 h2 h3 h4 h5
section
variable {C:Cx} {p:Program} {sc:Scope} {k:Nat}
theorem uI:bootBuiltins (Str.ofString "len")=some (.builtin "len"):=by decide +kernel
theorem uG:bootBuiltins (Str.ofString "min")=some (.builtin "min"):=by decide +kernel
theorem uH:bootBuiltins (Str.ofString "max")=some (.builtin "max"):=by decide +kernel
theorem qA:bootBuiltins (Str.ofString "isinstance")=some (.builtin "isinstance"):=by decide +kernel
theorem gH:bootBuiltins (Str.ofString "range")=some (.type "range"):=by decide +kernel
theorem rT:bootBuiltins (Str.ofString "bool")=some (.type "bool"):=by decide +kernel
theorem qz:bootBuiltins (Str.ofString "str")=some (.type "str"):=by decide +kernel
theorem qB:bootBuiltins (Str.ofString "int")=some (.type "int"):=by decide +kernel
theorem mR:bootBuiltins (Str.ofString "list")=some (.type "list"):=by decide +kernel
theorem mS:bootBuiltins (Str.ofString "dict")=some (.type "dict"):=by decide +kernel
theorem HE.len (G:Gl C p) {np pos:Pos} {es:List Expr} {L:LT} (hn:sc.names.lookup (Str.ofString "len")=some .globalImplicit) (hl:HL C sc k es L) (hp:ah es=true):HE C sc k (.Call (.Name (Str.ofString "len") np) es [] pos) (bv (eT C.ns) L):=
 HE.builtin G.ok (tR G.ok) hn (G.free _ (by decide)) (G.blt uI (by decide)) rfl hl hp
theorem yX (G:Gl C p) (hz:C.held=Option.none) {np pos:Pos} {es:List Expr} {L:LT} (hn:sc.names.lookup (Str.ofString "min")=some .globalImplicit) (hl:HL C sc k es L) (hp:ah es=true):HE C sc k (.Call (.Name (Str.ofString "min") np) es [] pos) (bv sv L):=
 HE.builtin G.ok (tP hz) hn (G.free _ (by decide)) (G.blt uG (by decide)) rfl hl hp
theorem Ai (G:Gl C p) {np pos:Pos} {es:List Expr} {L:LT} (hn:sc.names.lookup (Str.ofString "isinstance")=some .globalImplicit) (hl:HL C sc k es L) (hp:ah es=true):HE C sc k (.Call (.Name (Str.ofString "isinstance") np) es [] pos) (bv bu L):=
 HE.builtin G.ok tS hn (G.free _ (by decide)) (G.blt qA (by decide)) rfl hl hp
theorem y3 (G:Gl C p) {np pos:Pos} {es:List Expr} {L:LT} (hn:sc.names.lookup (Str.ofString "int")=some .globalImplicit) (hl:HL C sc k es L) (hp:ah es=true):HE C sc k (.Call (.Name (Str.ofString "int") np) es [] pos) (bv lZ L):=
 d5 G.ok tV hn (G.free _ (by decide)) (G.blt qB (by decide)) rfl hl hp
theorem yV (G:Gl C p) {np pos:Pos} {es:List Expr} {L:LT} (hn:sc.names.lookup (Str.ofString "str")=some .globalImplicit) (hl:HL C sc k es L) (hp:ah es=true):HE C sc k (.Call (.Name (Str.ofString "str") np) es [] pos) (bv su L):=
 d5 G.ok tL hn (G.free _ (by decide)) (G.blt qz (by decide)) rfl hl hp
theorem Ah (G:Gl C p) (hz:C.held=Option.none) {np pos:Pos} {es:List Expr} {L:LT} (hn:sc.names.lookup (Str.ofString "range")=some .globalImplicit) (hl:HL C sc k es L) (hp:ah es=true):HI C sc k (.Call (.Name (Str.ofString "range") np) es [] pos) (lr L):=
 qH G.ok hz hl hp hn (G.free _ (by decide)) (G.blt gH (by decide))
theorem x8 (G:Gl C p) {pos:Pos} (h:sc.names.lookup (Str.ofString "bool")=some .globalImplicit):HE C sc k (.Name (Str.ofString "bool") pos) (br (.ty "bool")):=iZ G.ok h (G.free _ (by decide)) (G.blt rT (by decide)) rfl
theorem y6 (G:Gl C p) {pos:Pos} (h:sc.names.lookup (Str.ofString "str")=some .globalImplicit):HE C sc k (.Name (Str.ofString "str") pos) (br (.ty "str")):=iZ G.ok h (G.free _ (by decide)) (G.blt qz (by decide)) rfl
theorem y7 (G:Gl C p) {pos:Pos} (h:sc.names.lookup (Str.ofString "int")=some .globalImplicit):HE C sc k (.Name (Str.ofString "int") pos) (br (.ty "int")):=iZ G.ok h (G.free _ (by decide)) (G.blt qB (by decide)) rfl
theorem x7 (G:Gl C p) {pos:Pos} (h:sc.names.lookup (Str.ofString "dict")=some .globalImplicit):HE C sc k (.Name (Str.ofString "dict") pos) (br (.ty "dict")):=iZ G.ok h (G.free _ (by decide)) (G.blt mS (by decide)) rfl
theorem xZ {o:Expr} {apos pos:Pos} {es:List Expr} {To:ET} {L:LT} (ho:HE C sc k o To) (hl:HL C sc k es L) (hp:ah es=true)
  (hbase:∀env,attributeBase o (Str.ofString "split") env (eval o env)=eval o env) (hline:(apos.endLine == pos.line)=true) (hfew:es.length < 30):HE C sc k (.Call (.Attribute o (Str.ofString "split") apos) es [] pos) (co jg lY To L):=
 bY fw F.plainAttrs_str F.slot_str_split F.type_str_split pA ho hl hp hbase hline hfew
theorem yZ {o:Expr} {apos pos:Pos} {es:List Expr} {To:ET} {L:LT} (ho:HE C sc k o To) (hl:HL C sc k es L) (hp:ah es=true)
  (hbase:∀env,attributeBase o (Str.ofString "join") env (eval o env)=eval o env) (hline:(apos.endLine == pos.line)=true) (hfew:es.length < 30):HE C sc k (.Call (.Attribute o (Str.ofString "join") apos) es [] pos) (co jg iq To L):=
 bY fw F.plainAttrs_str F.slot_str_join F.type_str_join rt ho hl hp hbase hline hfew
theorem vn {o:Expr} {apos pos:Pos} {es:List Expr} {To:ET} {L:LT} (ho:HE C sc k o To) (hl:HL C sc k es L) (hp:ah es=true)
  (hbase:∀env,attributeBase o (Str.ofString "startswith") env (eval o env)=eval o env) (hline:(apos.endLine == pos.line)=true) (hfew:es.length < 30):HE C sc k (.Call (.Attribute o (Str.ofString "startswith") apos) es [] pos) (co jg jo To L):=
 bY fw F.plainAttrs_str F.slot_str_startswith F.type_str_startswith nj ho hl hp hbase hline hfew
theorem HE.append {o:Expr} {apos pos:Pos} {es:List Expr} {To:ET} {L:LT} (ho:HE C sc k o To) (hl:HL C sc k es L) (hp:ah es=true)
  (hbase:∀env,attributeBase o (Str.ofString "append") env (eval o env)=eval o env) (hline:(apos.endLine == pos.line)=true) (hfew:es.length < 30):HE C sc k (.Call (.Attribute o (Str.ofString "append") apos) es [] pos) (co d7 b6 To L):=
 bY gU F.plainAttrs_list F.slot_list_append F.type_list_append nz ho hl hp hbase hline hfew
noncomputable def iU (sc cs:Scope) (fv gs:List String):Bool:=
 cs.kind == .function&&cs.names.all (fun y=>y.2 != .cell)&&cs.names.all (fun y=>y.2 != .local||cs.names.lookup y.1 == some .local)&&decide (cs.names.map (·.1)).Nodup &&
 cs.names.all (fun q=>q.2 != .free||fv.any fun x=>Str.ofString x == q.1)&&fv.all (fun x=>cs.names.contains (Str.ofString x,NameKind.free)&&(sc.names.lookup (Str.ofString x) == some .cell||sc.names.lookup (Str.ofString x) == some .free))&&gs.all fun x=>!fv.contains x
theorem CompOk.of {sc cs:Scope} {fv:List String} {g:Tgt} (h:iU sc cs fv g.names=true):CompOk sc cs fv g:=by
 unfold iU at h
 simp only[Bool.and_eq_true,List.all_eq_true,Bool.or_eq_true,bne_iff_ne,beq_iff_eq,decide_eq_true_eq,List.any_eq_true,Bool.not_eq_true',List.contains_eq_mem,decide_eq_false_iff_not] at h
 obtain ⟨⟨⟨⟨⟨⟨h1,h2⟩,h3⟩,h4⟩,h5⟩,h6⟩,h7⟩:=h
 refine⟨h1,h2,fun y hy e=>(h3 y hy).elim (fun n=>absurd e n) id,h4,fun q hq e=>(h5 q hq).elim (fun n=>absurd e n) id,fun x hx=>⟨(h6 x hx).1,(h6 x hx).2⟩,h7⟩
theorem tj {value:Expr} {t:Str} {q:Pos} {line:Nat} (h:sc.names.lookup t=some .cell):∀env,EnvOk env sc->swapsWith value (some (.Name t q)) line env=pure false:=by
 intro env en
 unfold swapsWith
 have e:env.kindOf t=some .cell:=en.of h
 cases value<;>first | rfl | (simp only[e];rw[show (some NameKind.cell == some NameKind.local)=false from rfl,Bool.and_false,Bool.false_and,Bool.false_and];rfl) | (simp only[e,Option.some_beq_some];rw[show (NameKind.cell == NameKind.local)=false from rfl,Bool.and_false,Bool.false_and,Bool.false_and])
theorem sk {elt:Expr} {gens:List Comprehension} {cs:Scope} {pos:Pos} {t:Str} {q:Pos} {line:Nat} (h:sc.names.lookup t=some .local) (hl:(q.line == pos.line)=true) (hn:(cs.names.any fun y=>y.1 == t&&(y.2 == .local||y.2 == .cell))=false) :
  ∀env,EnvOk env sc->swapsWith (.ListComp elt gens cs pos) (some (.Name t q)) line env=pure true:=by
 intro env en
 unfold swapsWith
 have e:env.kindOf t=some .local:=en.of h
 have e2:env.blockKind=.function:=by unfold Env.blockKind;rw[en.k];rfl
 have e3:(Expr.ListComp elt gens cs pos).pos.line=pos.line:=rfl
 simp only[e,e2,e3,hl,hn]
 rfl
end
noncomputable def Grow (σ σ':ae):Prop:=∀b o,σ b=some o->σ' b=some o
theorem Grow.refl {σ:ae}:Grow σ σ:=fun _ _ e=>e
theorem Grow.trans {σ₁ σ₂ σ₃:ae} (h:Grow σ₁ σ₂) (h':Grow σ₂ σ₃):Grow σ₁ σ₃:=fun b o e=>h' b o (h b o e)
theorem Grow.upd {σ σ':ae} {a:Addr} {o:AObj} (h:Grow σ σ') (ha:σ' a=Option.none):Grow σ (am σ' a o):=fun b o' e=>by
 rw[aW ha (h b o' e)]
noncomputable def e8 (xs:List V) (σ:ae) (Q:V->ae->Prop):Prop:=∀a σ',Grow σ σ'->σ a=Option.none->σ' a=some (.list xs)->Q (.ref a) σ'
theorem Grow.none {σ σ':ae} (h:Grow σ σ') {a:Addr} (ha:σ' a=Option.none):σ a=Option.none:=by
 cases e:σ a with
 |none=>rfl
 |some o=>rw[h a o e] at ha;cases ha
theorem ce {α:Type} {acc r:List α} {y:α} (hz:acc.length+(r.length+1)<=1048576):acc.length < 1048576/\(acc++[y]).length+r.length<=1048576:=
 ⟨Nat.lt_of_le_of_lt (Nat.le_add_right _ _) hz,by rw[List.length_append];exact (Nat.add_right_comm acc.length 1 r.length).symm▸hz⟩
theorem cR {g:Tgt} {inv:ae->Prop} {T:ET} {m:aq} (P:ae->Prop) (hinv:∀σ,P σ->inv σ) (items:List V) :
  ∀(ys acc:List V) (σ:ae) (Q:List V->ae->Prop),ys.length=items.length->acc.length+items.length<=1048576->
  (∀(i:Nat) v y,items[i]?=some v->ys[i]?=some y->∀σ (Q':V->ae->Prop),P σ->(∀σ',P σ'->Q' y σ')->∃m',bG g v m=some m'/\T m' σ Q')->
  P σ->(∀σ',P σ'->Q (acc++ys) σ')->cq g inv tT T m items acc σ Q:=by
 induction items with
 |nil=>
  intro ys acc σ Q hl hz step p q
  have q':=q σ p
  rw[List.length_eq_zero_iff.mp hl,List.append_nil] at q'
  exact⟨hinv σ p,q'⟩
 |cons v r ih=>
  intro ys acc σ Q hl hz step p q
  cases ys with
  |nil=>exact (Nat.succ_ne_zero _ hl.symm).elim
  |cons y ys=>
   exact⟨hinv σ p,step 0 v y rfl rfl σ _ p fun σ' p'=>⟨(ce (y:=y) hz).1,ih ys (acc++[y]) σ' Q (Nat.succ.inj hl) (ce hz).2 (fun i v y e1 e2=>step (i+1) v y e1 e2) p' fun σ'' p''=>by rw[List.append_assoc];exact q σ'' p''⟩⟩
theorem bK {g:Tgt} {inv:ae->Prop} {B:BT} {T:ET} {m:aq} (P:ae->Prop) (hinv:∀σ,P σ->inv σ) (f:V->Option V) (items:List V) :
  ∀(acc:List V) (σ:ae) (Q:List V->ae->Prop),acc.length+items.length<=1048576->
  (∀v∈items,∀σ (Q₁:V->ae->Prop) (Q₂:ae->Prop),P σ->(∀σ' y,P σ'->f v=some y->Q₁ y σ')->(∀σ',P σ'->f v=Option.none->Q₂ σ')->∃m',bG g v m=some m'/\B m' σ fun b σ₁=>if b then T m' σ₁ Q₁ else Q₂ σ₁)->
  P σ->(∀σ',P σ'->Q (acc++items.filterMap f) σ')->cq g inv B T m items acc σ Q:=by
 induction items with
 |nil=>exact fun acc σ Q hz step p q=>⟨hinv σ p,List.append_nil acc▸q σ p⟩
 |cons v r ih=>
  intro acc σ Q hz step p q
  exact⟨hinv σ p,step v (.head _) σ _ _ p
   (fun σ' y p' e=>⟨(ce (y:=y) hz).1,ih (acc++[y]) σ' Q (ce hz).2 (fun v hv=>step v (.tail _ hv)) p' fun σ'' p''=>by have:=q σ'' p'';rw[List.filterMap_cons_some e] at this;rw[List.append_assoc];exact this⟩)
   fun σ' p' e=>ih acc σ' Q (Nat.le_of_lt hz) (fun v hv=>step v (.tail _ hv)) p' fun σ'' p''=>List.filterMap_cons_none e▸q σ'' p''⟩
theorem aC {g:Tgt} {inv:ae->Prop} {T:ST} (I:Nat->aq->ae->Prop) (R:V->aq->ae->Prop) (hinv:∀i m σ,I i m σ->inv σ) (items:List V) {Q:Fl->aq->ae->Prop}
  (step:∀i v m σ Q',items[i]?=some v->I i m σ->(∀m' σ',I (i+1) m' σ'->Q' .next m' σ')->(∀m' σ',I (i+1) m' σ'->Q' .cont m' σ')->(∀u m' σ',R u m' σ'->Q' (.ret u) m' σ')->∃m',bG g v m=some m'/\T m' σ Q')
  (done:∀m σ,I items.length m σ->Q .next m σ) (ret:∀u m σ,R u m σ->Q (.ret u) m σ):∀(m:aq) (σ:ae),I 0 m σ->gm g inv T items m σ Q:=by
 induction items generalizing I with
 |nil=>exact fun m σ h=>⟨hinv _ _ _ h,done m σ h⟩
 |cons v r ih=>
  have k:=ih (fun i=>I (i+1)) (fun i=>hinv (i+1)) (fun i=>step (i+1)) done
  exact fun m σ h=>⟨hinv _ _ _ h,step 0 v m σ _ rfl h k k ret⟩
@[simp] theorem zq (m:aq) (x y:String) (v:V):put m x v y=bif y == x then some v else m y:=rfl
@[simp low] theorem xD {α:Type} (x y:String) (a b:α):(bif y == x then a else b)=if y=x then a else b:=by
 by_cases h:y=x
 ·rw[if_pos h,h,beq_self_eq_true];rfl
 ·rw[if_neg h,beq_false_of_ne h];rfl
@[simp] theorem yu (fv:List String) (m:aq) (x:String):only fv m x=if x∈fv then m x else Option.none:=rfl
theorem ue {ws:List Value} (h:ws.length=1):∃a,ws=[a]:=List.length_eq_one_iff.mp h
theorem rB {n:Nat} {ws:List Value} (h:ws.length=n+1):∃a r,ws=a::r/\r.length=n:=by
 cases ws with
 |nil=>cases h
 |cons a r=>exact⟨a,r,rfl,Nat.succ.inj h⟩
theorem ud {ws:List Value} (h:ws.length=2):∃a b,ws=[a,b]:=by
 obtain ⟨a,r,rfl,g⟩:=rB h
 obtain ⟨b,rfl⟩:=ue g
 exact⟨a,b,rfl⟩
theorem uc {ws:List Value} (h:ws.length=3):∃a b c,ws=[a,b,c]:=by
 obtain ⟨a,r,rfl,g⟩:=rB h
 obtain ⟨b,c,rfl⟩:=ud g
 exact⟨a,b,c,rfl⟩
theorem ub {ws:List Value} (h:ws.length=4):∃a b c d,ws=[a,b,c,d]:=by
 obtain ⟨a,r,rfl,g⟩:=rB h
 obtain ⟨b,c,d,rfl⟩:=uc g
 exact⟨a,b,c,d,rfl⟩
theorem zL {ws:List Value} (h:ws.length=5):∃a b c d e,ws=[a,b,c,d,e]:=by
 obtain ⟨a,r,rfl,g⟩:=rB h
 obtain ⟨b,c,d,e,rfl⟩:=ub g
 exact⟨a,b,c,d,e,rfl⟩
theorem aV {a:Int} {n i:Nat} {v:V} (h:(aF a n)[i]?=some v):i < n/\v=.int (a+i):=by
 unfold aF at h
 rw[List.getElem?_map] at h
 obtain ⟨j,hj,rfl⟩:=Option.map_eq_some_iff.mp h
 obtain ⟨hlt,hji⟩:=List.getElem?_eq_some_iff.mp hj
 simp at hji hlt
 subst hji
 exact⟨hlt,rfl⟩
theorem aG (a:Int) (n:Nat):(aF a n).length=n:=by simp[aF]
noncomputable def cell (ns:List Int) (k:Int):Int:=ns.getD k.toNat 0
@[reducible] noncomputable def rD (U:ST) (Q:Fl->aq->ae->Prop):Fl->aq->ae->Prop:=fun f m σ=>match f with
 |.next=>U m σ Q
 |f=>Q f m σ
@[simp] theorem u3 (U:ST) (Q:Fl->aq->ae->Prop) (m:aq) (σ:ae):rD U Q .next m σ=U m σ Q:=rfl
@[simp] theorem u4 (U:ST) (Q:Fl->aq->ae->Prop) (m:aq) (σ:ae):rD U Q .cont m σ=Q .cont m σ:=rfl
@[simp] theorem wP (U:ST) (Q:Fl->aq->ae->Prop) (m:aq) (σ:ae):rD U Q .brk m σ=Q .brk m σ:=rfl
@[simp] theorem wO (U:ST) (Q:Fl->aq->ae->Prop) (v:V) (m:aq) (σ:ae):rD U Q (.ret v) m σ=Q (.ret v) m σ:=rfl
@[reducible] noncomputable def fin (Q:V->ae->Prop):Fl->aq->ae->Prop:=fun f _ σ'=>match f with | .ret v=>Q v σ' | .next=>Q .none σ' | _=>False
@[simp] theorem yJ (Q:V->ae->Prop) (v:V) (m:aq) (σ:ae):fin Q (.ret v) m σ=Q v σ:=rfl
@[simp] theorem w3 (Q:V->ae->Prop) (m:aq) (σ:ae):fin Q .next m σ=Q .none σ:=rfl
section
variable {m:aq} {σ:ae} {Q:V->ae->Prop} {R:Fl->aq->ae->Prop} {B:Bool->ae->Prop} {K:List V->ae->Prop} {J:List V->(ae->Prop)->ae->Prop} {O:Option Int->ae->Prop} {ns:List Int}
@[simp] theorem ym {x:String} {T:ET}:kQ x T m σ R=T m σ fun v σ'=>R .next (put m x v) σ':=rfl
@[simp] theorem yn {T:ET}:tw T m σ R=T m σ fun v σ'=>R (.ret v) m σ':=rfl
@[simp] theorem zn {b:BT} {T U:ST}:zo b T U m σ R=b m σ fun b σ'=>if b then T m σ' R else U m σ' R:=rfl
@[simp] theorem yo:iy m σ R=R .next m σ:=rfl
@[simp] theorem we {T:ET}:pd T m σ R=T m σ fun _ σ'=>R .next m σ':=rfl
@[simp] theorem yp {g:Tgt} {I:IT} {T:ST}:v9 g I T m σ R=I m σ fun items inv σ'=>gm g inv T items m σ' R:=rfl
@[simp] theorem sy {op:V->V->V->ae->(ae->Prop)->Prop} {T To Ti:ET}:cC op T To Ti m σ R=T m σ fun v σ₁=>To m σ₁ fun o σ₂=>Ti m σ₂ fun i σ₃=>op o i v σ₃ fun σ₄=>R .next m σ₄:=rfl
@[simp] theorem xj {x:String}:aO x m σ Q=atK (m x) fun v=>Q v σ:=rfl
@[simp] theorem xR {α:Type} {v:α} {F:α->Prop}:atK (some v) F=F v:=rfl
@[simp] theorem yK {v:V}:br v m σ Q=Q v σ:=rfl
@[simp] theorem yO {op:O2} {T U:ET}:bQ op T U m σ Q=T m σ fun a σ₁=>U m σ₁ fun b σ₂=>op a b σ₂ Q:=rfl
@[simp] theorem z3 {op:O1} {T:ET}:AP op T m σ Q=T m σ fun a σ₁=>op a σ₁ Q:=rfl
@[simp] theorem xx {spec:aK} {L:LT}:bv spec L m σ Q=L m σ fun vs σ'=>spec vs σ' Q:=rfl
@[simp] theorem xn {ty:V->ae->Prop} {op:aK} {T:ET} {L:LT}:co ty op T L m σ Q=T m σ fun o σ₁=>ty o σ₁/\L m σ₁ fun vs σ₂=>op (o::vs) σ₂ Q:=rfl
@[simp] theorem yB:iF m σ K=K [] σ:=rfl
@[simp] theorem wM {T:ET} {L:LT}:bV T L m σ K=T m σ fun v σ₁=>L m σ₁ fun vs σ₂=>K (v::vs) σ₂:=rfl
@[simp] theorem yL {L:LT}:uq L m σ Q=L m σ fun vs σ₁=>vs.length<=1000/\Q (.tup vs) σ₁:=rfl
@[simp] theorem xo {L:LT}:qo L m σ Q=L m σ fun vs σ₁=>vs.length<=1000/\bq vs σ₁ Q:=rfl
@[simp] theorem yk {T:BT}:vR T m σ B=T m σ fun b σ'=>B (!b) σ':=rfl
@[simp] theorem yl {T U:BT}:vU T U m σ B=T m σ fun b σ'=>if b then U m σ' B else B false σ':=rfl
@[simp] theorem zi {T U:BT}:Av T U m σ B=T m σ fun b σ'=>if b then B true σ' else U m σ' B:=rfl
@[simp] theorem Au:tT m σ B=B true σ:=rfl
@[simp] theorem Aw:tF m σ B=B false σ:=rfl
@[simp] theorem xv {fv:List String} {g:Tgt} {I:IT} {b:BT} {T:ET}:jV fv g I b T m σ Q=I m σ fun items inv σ'=>cq g inv b T (only fv m) items [] σ' fun ys σ''=>bq ys σ'' Q:=rfl
@[simp] theorem zR {T:ET}:AM ns T m σ J=T m σ fun v σ'=>dq ns v σ' J:=rfl
@[simp] theorem u7 {L:LT}:lr L m σ J=L m σ fun vs σ'=>cN vs σ' J:=rfl
@[simp] theorem yN {T:ET} {L U:aq->ae->(Option Int->ae->Prop)->Prop}:xq ns T L U m σ Q=T m σ fun v σ₁=>L m σ₁ fun lo σ₂=>U m σ₂ fun hi σ₃=>mz ns lo hi v σ₃ Q:=rfl
@[simp] theorem wm:sG m σ O=O Option.none σ:=rfl
@[simp] theorem wl {T:ET}:sF T m σ O=T m σ fun v σ'=>∃i,v=.int i/\O (some i) σ':=rfl
@[simp] theorem uC {x:String} {v:V}:bG (.name x) v m=some (put m x v):=rfl
@[simp] theorem uD {x:String} {xs:List String} {v:V} {vs:List V}:bD (x::xs) (v::vs) m=bD xs vs (put m x v):=rfl
@[simp] theorem vh:bD [] [] m=m:=rfl
@[simp] theorem yw {x:String}:cZ x=Option.none:=rfl
end
@[simp] theorem wU (c:Bool) (F:Bool->Prop):isB (.bool c) F=F c:=rfl
@[simp] theorem vT (T:ET) (m:aq) (σ:ae) (Q:Bool->ae->Prop):lV T m σ Q=T m σ (fun v σ'=>isB v fun b=>Q b σ'):=rfl
@[simp] theorem yP (T U:ET) (m:aq) (σ:ae) (Q:V->ae->Prop):xA T U m σ Q=T m σ (fun v σ'=>isB v fun b=>if b then U m σ' Q else Q (.bool false) σ'):=rfl
@[simp] theorem z4 (T U:ET) (m:aq) (σ:ae) (Q:V->ae->Prop):xh T U m σ Q=T m σ (fun v σ'=>isB v fun b=>if b then Q (.bool true) σ' else U m σ' Q):=rfl
@[simp] theorem vS (o1 o2:O2) (T U W:ET) (m:aq) (σ:ae) (Q:Bool->ae->Prop):lU o1 o2 T U W m σ Q=T m σ (fun a σ₁=>U m σ₁ fun b σ₂=>o1 a b σ₂ fun v σ₃=>isB v fun x=>if x then W m σ₃ fun c σ₄=>o2 b c σ₄ fun u σ₅=>isB u fun y=>Q y σ₅ else Q false σ₃):=rfl
section
variable {σ:ae} {Q:V->ae->Prop} {ns:List Int}
@[simp] theorem add_int {x y:Int}:fZ (.int x) (.int y) σ Q=Q (.int (x+y)) σ:=rfl
@[simp] theorem yQ {x y:Str}:fZ (.str x) (.str y) σ Q=(x.length+y.length<=16777216/\Q (.str (x++y)) σ):=rfl
@[simp] theorem sub_int {x y:Int}:pn (.int x) (.int y) σ Q=Q (.int (x-y)) σ:=rfl
@[simp] theorem len_str {x:Str}:eT ns [.str x] σ Q=(x.length<=16777216/\Q (.int x.length) σ):=rfl
@[simp] theorem ua:eT ns [.script] σ Q=Q (.int ns.length) σ:=rfl
@[simp] theorem yA {vs:List V}:eT ns [.tup vs] σ Q=(vs.length<=16777216/\Q (.int vs.length) σ):=rfl
theorem pT {a:Addr} {xs:List V} (h:σ a=some (.list xs)):eT ns [.ref a] σ Q=Q (.int xs.length) σ:=by show lj σ Q (σ a)=_;rw[h];rfl
@[simp] theorem int_bool {b:Bool}:lZ [.bool b] σ Q=Q (.int (if b then 1 else 0)) σ:=rfl
theorem cP {x:Str} {a:Addr} {ys:List Str} (h:σ a=some (.list (ys.map .str))) (hl:(ys.map (·.length)).sum+ys.length*x.length<=16777216) (q:Q (.str (Str.join x ys)) σ):iq [.str x,.ref a] σ Q:=⟨ys,h,hl,q⟩
@[simp] theorem wT {b:Bool}:bu [.bool b,.ty "bool"] σ Q=Q (.bool true) σ:=by simp[bu,onVT,on2,on1,isT,Mine.on]
@[simp] theorem yD {b:Str}:bu [.str b,.ty "str"] σ Q=Q (.bool true) σ:=by simp[bu,onVT,on2,on1,isT,Mine.on]
@[simp] theorem yE {b:Int}:bu [.int b,.ty "int"] σ Q=Q (.bool true) σ:=by simp[bu,onVT,on2,on1,isT,Mine.on]
@[simp] theorem yC {vs:List V}:bu [.tup vs,.ty "tuple"] σ Q=Q (.bool true) σ:=by simp[bu,onVT,on2,on1,isT,Mine.on]
theorem qb {a:Addr} {kvs:List (Str×V)} {ep:Nat} (h:σ a=some (.dict kvs ep)):bu [.ref a,.ty "dict"] σ Q=Q (.bool true) σ:=by
 simp[bu,onVT,on2,on1,isT,Mine.on,h]
@[simp] theorem uX {x:Str}:jg (.str x) σ=True:=rfl
@[simp] theorem yt {n:Int} {R:List V->(ae->Prop)->ae->Prop}:cN [.int n] σ R=((-(2 ^ 62)<=n/\n < 2 ^ 62)/\R (aF 0 n.toNat) (fun _=>True) σ):=rfl
@[simp] theorem yr {a b:Int} {R:List V->(ae->Prop)->ae->Prop}:cN [.int a,.int b] σ R=((-(2 ^ 62)<=a/\a < 2 ^ 62/\-(2 ^ 62)<=b/\b < 2 ^ 62)/\R (aF a (b-a).toNat) (fun _=>True) σ):=rfl
@[simp] theorem wQ {x:Str} {R:List V->(ae->Prop)->ae->Prop}:dq ns (.str x) σ R=R (eV x) (fun _=>True) σ:=rfl
theorem nN {a:Addr} {xs:List V} (h:σ a=some (.list xs)) {R:List V->(ae->Prop)->ae->Prop}:dq ns (.ref a) σ R=R xs (fun σ=>σ a=some (.list xs)) σ:=by show fj a σ R (σ a)=_;rw[h];rfl
theorem nP {a:Addr} {xs:List V} {i:Int} {v:V} (h:σ a=some (.list xs)) (h0:0<=i) (hv:xs[i.toNat]?=some v) (q:Q v σ):fY ns (.ref a) (.int i) σ Q:=by
 refine⟨xs,i.toNat,v,h,?_,hv,q⟩
 have hlt:=(List.getElem?_eq_some_iff.mp hv).1
 unfold iM
 rw[if_pos h0,if_pos (by omega)]
theorem jJ {x:Str} {i:Int} {c:Nat} (hz:x.length < 16777217) (h0:0<=i) (hv:x.cps.toList[i.toNat]?=some c) (q:Q (.str ⟨#[c]⟩) σ):fY ns (.str x) (.int i) σ Q:=by
 refine⟨hz,i.toNat,c,?_,hv,q⟩
 have hlt:=(List.getElem?_eq_some_iff.mp hv).1
 have:x.length=x.cps.toList.length:=by simp[Str.length]
 unfold iM
 rw[if_pos h0,if_pos (by rw[this];omega)]
theorem m7 {a:Addr} {xs:List V} {i:Int} {v:V} {R:ae->Prop} (h:σ a=some (.list xs)) (h0:0<=i) (hi:i.toNat < xs.length) (q:R (am σ a (.list (xs.set i.toNat v)))):tq (.ref a) (.int i) v σ R:=by
 refine⟨xs,i.toNat,h,?_,q⟩
 unfold iM
 rw[if_pos h0,if_pos (by omega)]
theorem gD {a:Addr} {xs:List V} {lo hi:Option Int} (h:σ a=some (.list xs)) (q:bq (aL xs lo hi) σ Q):mz ns lo hi (.ref a) σ Q:=⟨xs,h,q⟩
theorem aD {a:Addr} {xs:List V} {v:V} (h:σ a=some (.list xs)) (hz:xs.length < 16777216) (q:Q .none (am σ a (.list (xs++[v])))):b6 [.ref a,v] σ Q:=⟨xs,h,hz,q⟩
theorem n6 {k:Int} (h0:0<=k) (h:k < ns.length) (q:Q (.int (cell ns k)) σ):fY ns .script (.int k) σ Q:=by
 refine⟨k.toNat,ns.getD k.toNat 0,h0,?_,?_,q⟩
 ·unfold iM;rw[if_pos h0,if_pos h]
 ·rw[List.getD_eq_getElem?_getD]
  cases e:ns[k.toNat]? with
  |none=>rw[List.getElem?_eq_none_iff] at e;omega
  |some n=>rfl
theorem dX {n:Int} {k:Nat} (h0:0<=n):clipAt k n=min n.toNat k:=by
 unfold clipAt
 rw[if_neg (Int.not_lt.mpr h0)]
 obtain ⟨m,rfl⟩:=Int.eq_ofNat_of_zero_le h0
 by_cases h:m<=k
 ·rw[Int.min_eq_left (Int.ofNat_le.mpr h),Int.max_eq_right (Int.natCast_nonneg _),Int.toNat_natCast,Nat.min_eq_left h]
 ·have h':k<=m:=Nat.le_of_not_le h
  rw[Int.min_eq_right (Int.ofNat_le.mpr h'),Int.max_eq_right (Int.natCast_nonneg _),Int.toNat_natCast,Int.toNat_natCast,Nat.min_eq_right h']
theorem dW {α:Type} (l:List α) {n:Int} (h0:0<=n):aL l Option.none (some n)=l.take n.toNat:=by
 unfold aL gS
 simp only[Option.elim]
 rw[dX h0,List.drop_zero,Nat.sub_zero,<-List.take_eq_take_min]
end
abbrev cl (x:Str):List Nat:=x.cps.toList
theorem uB {x y:Str} (h:cl x=cl y):x=y:=by
 cases x;cases y;simp[cl] at h;rw[h]
theorem bM (x y:Str):cl (x++y)=cl x++cl y:=by
 show (x.cps++y.cps).toList=_;simp
theorem ck (x:Str):x.length=(cl x).length:=by simp[Str.length]
noncomputable def jn (c:Nat):List (List Nat)->List Nat
 |[]=>[]
 |[x]=>x
 |x::y::r=>x++c::jn c (y::r)
theorem cT (c:Nat):∀xs:List Str,cl (Str.join ⟨#[c]⟩ xs)=jn c (xs.map cl)
 |[]=>rfl
 |[x]=>rfl
 |x::y::r=>by
  have ih:=cT c (y::r)
  simp only[List.map_cons] at ih
  simp only[List.map_cons,jn,Str.join,bM,ih]
  rw[List.append_assoc];rfl
noncomputable def qK (c:Nat) (xs:List (List Nat)):Prop:=∀x∈xs,c∉x
theorem iT {c:Nat}:∀{x y a b:List Nat},c∉x->c∉y->x++c::a=y++c::b->x=y/\a=b
 |[],[],a,b,_,_,h=>by simp at h;exact⟨rfl,h⟩
 |[],d::y,a,b,_,hy,h=>by simp at h;exact absurd (h.1▸List.mem_cons_self ..) hy
 |d::x,[],a,b,hx,_,h=>by simp at h;exact absurd (h.1▸List.mem_cons_self ..) hx
 |d::x,e::y,a,b,hx,hy,h=>by
  simp at h hx hy
  obtain ⟨rfl,h⟩:=h
  obtain ⟨rfl,rfl⟩:=iT hx.2 hy.2 h
  exact⟨rfl,rfl⟩
theorem pZ {c:Nat}:∀{xs ys:List (List Nat)},qK c xs->qK c ys->xs≠[]->ys≠[]->jn c xs=jn c ys->xs=ys
 |[],_,_,_,h,_,_=>absurd rfl h
 |_,[],_,_,_,h,_=>absurd rfl h
 |[x],[y],_,_,_,_,e=>by simp[jn] at e;rw[e]
 |[x],y::z::r,fx,_,_,_,e=>by
  simp only[jn] at e
  exact absurd (by rw[e];simp) (fx x (.head _))
 |x::z::r,[y],_,fy,_,_,e=>by
  simp only[jn] at e
  exact absurd (by rw[<-e];simp) (fy y (.head _))
 |x::z::r,y::u::q,fx,fy,_,_,e=>by
  simp only[jn] at e
  obtain ⟨rfl,e'⟩:=iT (fx x (.head _)) (fy y (.head _)) e
  rw[pZ (fun a h=>fx a (.tail _ h)) (fun a h=>fy a (.tail _ h)) (by simp) (by simp) e']
theorem g9 {c:Nat}:∀{xs ys:List (List Nat)},qK c xs->qK c ys->xs≠[]->ys≠[]->(jn c xs++[c] <+: jn c ys↔xs.length < ys.length/\ys.take xs.length=xs)
 |[],_,_,_,h,_=>absurd rfl h
 |_,[],_,_,_,h=>absurd rfl h
 |[x],[y],_,fy,_,_=>by
  simp only[jn]
  constructor
  ·rintro ⟨t,e⟩;exact absurd (by rw[<-e];simp) (fy y (.head _))
  ·rintro ⟨h,_⟩;simp at h
 |x::z::r,[y],_,fy,_,_=>by
  simp only[jn]
  constructor
  ·rintro ⟨t,e⟩;exact absurd (by rw[<-e];simp) (fy y (.head _))
  ·rintro ⟨h,_⟩;simp at h
 |[x],y::u::q,fx,fy,_,_=>by
  simp only[jn]
  constructor
  ·rintro ⟨t,e⟩
   obtain ⟨rfl,_⟩:=iT (a:=t) (fx x (.head _)) (fy y (.head _)) (by simpa using e)
   simp
  ·rintro ⟨_,h⟩
   simp at h
   subst h
   exact⟨jn c (u::q),by simp⟩
 |x::z::r,y::u::q,fx,fy,_,_=>by
  have ih:=g9 (c:=c) (xs:=z::r) (ys:=u::q) (fun a h=>fx a (.tail _ h)) (fun a h=>fy a (.tail _ h)) (by simp) (by simp)
  simp only[jn]
  constructor
  ·rintro ⟨t,e⟩
   obtain ⟨rfl,e'⟩:=iT (a:=jn c (z::r)++[c]++t) (fx x (.head _)) (fy y (.head _)) (by simpa using e)
   refine bH (ih.mp ⟨t,e'⟩) fun h1 h2=>?_
   exact⟨by simpa using h1,by simpa using h2⟩
  ·rintro ⟨h1,h2⟩
   simp only[List.length_cons,List.take_succ_cons,List.cons.injEq] at h1 h2
   obtain ⟨rfl,h2⟩:=h2
   obtain ⟨t,e⟩:=ih.mpr ⟨by simpa using h1,by simpa using h2⟩
   exact⟨t,by rw[<-e];simp⟩
noncomputable def Fr (x:Str):Prop:=47∉cl x
theorem dI:Str.ofString "/"=⟨#[47]⟩:=by decide +kernel
theorem dM {xs:List Str} (h:∀x∈xs,Fr x):qK 47 (xs.map cl):=fun a ha=>by
 obtain ⟨x,hx,rfl⟩:=List.mem_map.mp ha;exact h x hx
theorem di:∀{xs ys:List Str},xs.map cl=ys.map cl->xs=ys
 |[],[],_=>rfl
 |[],_::_,h=>by simp at h
 |_::_,[],h=>by simp at h
 |x::xs,y::ys,h=>by simp only[List.map_cons,List.cons.injEq] at h;rw[uB h.1,di h.2]
theorem gi {xs ys:List Str} (fx:∀x∈xs,Fr x) (fy:∀y∈ys,Fr y) (nx:xs≠[]) (ny:ys≠[]) (h:Str.join (Str.ofString "/") xs=Str.join (Str.ofString "/") ys):xs=ys:=by
 refine di (pZ (dM fx) (dM fy) (by simpa using nx) (by simpa using ny) ?_)
 rw[<-cT,<-cT,<-dI,h]
theorem fF {xs:List Str} (fx:∀x∈xs,Fr x) (nx:xs≠[]):Txt.split (Str.join (Str.ofString "/") xs) (Str.ofString "/")=xs:=by
 refine gi ?_ fx ?_ nx (StrLaws.join_split _ _)
 ·intro y hy
  rw[dI] at hy
  exact StrLaws.split_free _ 47 y hy
 ·intro e
  have:=PyProof.Rows.split_pos (Str.join (Str.ofString "/") xs) (Str.ofString "/")
  rw[e] at this;simp at this
theorem kK (x y:Str):Txt.startswith x y=true↔cl y <+: cl x:=by
 unfold Txt.startswith
 rw[StrLaws.subAt_eq,ck,ck,List.prefix_iff_eq_take]
 simp
 constructor
 ·rintro ⟨_,h⟩;exact h.symm
 ·intro h;refine⟨?_,h.symm⟩
  have:=congrArg List.length h
  simp at this
  omega
theorem eR {xs ys:List Str} (fx:∀x∈xs,Fr x) (fy:∀y∈ys,Fr y) (nx:xs≠[]) (ny:ys≠[]) :
  Txt.startswith (Str.join (Str.ofString "/") ys) (Str.join (Str.ofString "/") xs++Str.ofString "/")=decide (xs.length < ys.length/\ys.take xs.length=xs):=by
 rw[Bool.eq_iff_iff,kK,decide_eq_true_eq,bM,dI,cT,cT]
 have:=g9 (dM fx) (dM fy) (by simpa using nx) (by simpa using ny)
 rw[show cl ⟨#[47]⟩=[47] from rfl,this]
 simp only[List.length_map,<-List.map_take]
 constructor
 ·rintro ⟨h,e⟩;exact⟨h,di e⟩
 ·rintro ⟨h,e⟩;exact⟨h,by rw[e]⟩
noncomputable def GStr (C:Cx) (x:String) (v:Str):Prop:=∃t,C.mg (Str.ofString x)=some (.str v t)
noncomputable def GInt (C:Cx) (x:String) (v:Int):Prop:=∃t,C.mg (Str.ofString x)=some (.int v t)
section
variable {C:Cx} {p:Program} {sc:Scope} {k:Nat}
theorem y4 (O:C.Ok) {x:String} {pos:Pos} {v:Str} (h:sc.names.lookup (Str.ofString x)=some .globalImplicit) (hg:GStr C x v) (hd:(Str.ofString x == ("__debug__":Str))=false):HE C sc k (.Name (Str.ofString x) pos) (br (.str v)):=by
 refine x1_1 hg fun t e=>?_;clear hg
 exact i0 O h e (fun _=>.str v t) hd
theorem y5 (O:C.Ok) {x:String} {pos:Pos} {v:Int} (h:sc.names.lookup (Str.ofString x)=some .globalImplicit) (hg:GInt C x v) (hd:(Str.ofString x == ("__debug__":Str))=false):HE C sc k (.Name (Str.ofString x) pos) (br (.int v)):=by
 refine x1_1 hg fun t e=>?_;clear hg
 exact i0 O h e (fun _=>.int v t) hd
theorem GStr.of {loose:List Str} {mean:ExcName->Option Value} (T:Top p loose mean C.mg C.mb C.hB) {x:String} {v:Str} (h:valOf p (Str.ofString x)=some (.str v)):GStr C x v:=by
 refine x1_2 (T.const _ _ h) fun w h1 h2=>?_
 cases h2 C.hB with
 |str _ t=>exact⟨t,h1⟩
theorem GInt.of {loose:List Str} {mean:ExcName->Option Value} (T:Top p loose mean C.mg C.mb C.hB) {x:String} {v:Int} (h:valOf p (Str.ofString x)=some (.int v)):GInt C x v:=by
 refine x1_2 (T.const _ _ h) fun w h1 h2=>?_
 cases h2 C.hB with
 |int _ t=>exact⟨t,h1⟩
noncomputable def pp:O2
 |.str x,.int n,σ,Q=>MulOk x n/\Q (.str (Txt.mul x n)) σ
 |_,_,_,_=>False
theorem rp:Op2 C k (binaryOp .Mult) pp:=by
 intro A s σ a b wa wb Q P E ao R va vb q hP
 cases a<;>first | exact q.elim | skip
 cases b<;>first | exact q.elim | skip
 obtain ⟨_,rfl⟩:=va.invStr;obtain ⟨_,rfl⟩:=vb.invInt
 exact SB.mul q.1 fun t' k=>hP _ _ σ _ (.str _ _) (R.tok _) Step.refl q.2
end
noncomputable def aR {K:Type} [DecidableEq K] (kvs:List (K×V)) (k:K) (v:V):List (K×V):=
 if kvs.any (fun kv=>kv.1=k) then kvs.map (fun kv=>if kv.1=k then (kv.1,v) else kv) else kvs++[(k,v)]
noncomputable def aT {K:Type} [DecidableEq K] (kvs:List (K×V)) (k:K):Option V:=(kvs.find? fun kv=>kv.1=k).map (·.2)
noncomputable def dC {K:Type} [DecidableEq K] (kvs:List (K×V)) (k:K):List (K×V):=kvs.filter fun kv=>decide (kv.1≠k)
section
variable {aS:Addr} {h:Heap}
variable {K:Type} [DecidableEq K] {a a':List (K×V)} {b b':List (K×Value)} {k:K}
theorem PRel.any (k:K) (x:PRel aS h a b):(a.any fun kv=>kv.1=k)=(b.any fun kv=>kv.1=k):=
 x.ind (P:=fun a b=>(a.any fun kv=>kv.1=k)=(b.any fun kv=>kv.1=k)) rfl fun _ _ _ _ _ _ _ ih=>by simp only[List.any_cons,ih]
theorem PRel.append (x:PRel aS h a b) (y:PRel aS h a' b'):PRel aS h (a++a') (b++b'):=
 x.ind (P:=fun a b=>PRel aS h (a++a') (b++b')) y fun _ _ _ _ _ v _ ih=>by rw[List.cons_append,List.cons_append];exact⟨rfl,v,ih⟩
theorem PRel.mapSet {v:V} {w:Value} (hv:VRel aS h v w) (x:PRel aS h a b):PRel aS h (a.map fun kv=>if kv.1=k then (kv.1,v) else kv) (b.map fun kv=>if kv.1=k then (kv.1,w) else kv):=
 x.ind (P:=fun a b=>PRel aS h (a.map fun kv=>if kv.1=k then (kv.1,v) else kv) (b.map fun kv=>if kv.1=k then (kv.1,w) else kv)) trivial fun x _ _ _ _ q _ ih=>by
  rw[List.map_cons,List.map_cons]
  by_cases c:x=k
  ·rw[if_pos c,if_pos c];exact⟨rfl,hv,ih⟩
  ·rw[if_neg c,if_neg c];exact⟨rfl,q,ih⟩
theorem PRel.stored {v:V} {w:Value} (x:PRel aS h a b) (hv:VRel aS h v w):PRel aS h (aR a k v) (PySem.stored b k w):=by
 unfold aR PySem.stored
 rw[x.any k]
 split
 ·exact x.mapSet hv
 ·exact x.append ⟨rfl,hv,trivial⟩
theorem PRel.find (x:PRel aS h a b):∀{v:V},aT a k=some v->∃w,valueAt b k=some w/\VRel aS h v w:=
 x.ind (P:=fun a b=>∀{v:V},aT a k=some v->∃w,valueAt b k=some w/\VRel aS h v w) (fun e=>by cases e) fun x _ z _ _ q _ ih v hv=>by
  unfold aT at hv
  unfold valueAt
  by_cases c:x=k
  ·rw[List.find?_cons_of_pos (by simpa using c)] at hv
   rw[List.find?_cons_of_pos (by simpa using c)]
   cases Option.some.inj hv;exact⟨z,rfl,q⟩
  ·rw[List.find?_cons_of_neg (by simpa using c)] at hv
   rw[List.find?_cons_of_neg (by simpa using c)]
   exact ih hv
theorem PRel.none (x:PRel aS h a b):(aT a k).isSome=(valueAt b k).isSome:=
 x.ind (P:=fun a b=>(aT a k).isSome=(valueAt b k).isSome) rfl fun x _ _ _ _ _ _ ih=>by
  unfold aT valueAt
  by_cases c:x=k
  ·rw[List.find?_cons_of_pos (by simpa using c),List.find?_cons_of_pos (by simpa using c)];rfl
  ·rw[List.find?_cons_of_neg (by simpa using c),List.find?_cons_of_neg (by simpa using c)]
   exact ih
theorem PRel.without (x:PRel aS h a b):PRel aS h (dC a k) (PySem.without b k):=
 x.ind (P:=fun a b=>PRel aS h (dC a k) (PySem.without b k)) trivial fun x _ _ _ _ q _ ih=>by
  unfold dC PySem.without at *
  by_cases c:x=k
  ·rw[List.filter_cons_of_neg (by simpa using c),List.filter_cons_of_neg (by simpa using c)];exact ih
  ·rw[List.filter_cons_of_pos (by simpa using c),List.filter_cons_of_pos (by simpa using c)];exact⟨rfl,q,ih⟩
end
section
variable {C:Cx} {p:Program} {sc:Scope} {k:Nat}
theorem eD (x:Str) (t:Tok):(strKind C.prog C.w).is x (.str x t)=true:=by
 show Value.isStrOf x (.str x t)=true
 simp[Value.isStrOf]
noncomputable def ld (kvs:List (Str×V)) (σ:ae) (Q:V->ae->Prop):Prop:=∀a ep,σ a=Option.none->Q (.ref a) (am σ a (.dict kvs ep))
@[reducible] noncomputable def qp:ET:=fun _ σ Q=>ld [] σ Q
theorem ya {pos:Pos}:HE C sc k (.Dict [] [] pos) qp:=by
 refine⟨?_⟩;intro env A s m σ Q P E en ao R F q hP
 have hn:=aH s.heap
 refine x1_1 ((Heap.DictOf.new (knd:=strKind C.prog C.w) s.heap).dictAt) fun ep hat=>?_
 refine wpAny_Dict_empty (hP (.ref s.heap.objs.size) (.ref s.heap.objs.size) (am σ s.heap.objs.size (.dict [] ep)) _ (.ref _) ?_ .addPush (q _ ep (R.freshNone hn)))
 have:=R.add (tk:=s.toks) (a:=s.heap.objs.size) (o:=.dict [] ep) ay hn (h':=s.heap.push {cls:=.type "dict",data:=.dict #[]}) ⟨by simp,[],hat,trivial⟩
 exact this
noncomputable def tu:V->V->V->ae->(ae->Prop)->Prop:=fun o i v σ Q=>isR o fun a=>isS i fun k=>∃kvs ep,σ a=some (.dict kvs ep)/\kvs.length < 16777216/\∀ep',Q (am σ a (.dict (aR kvs k v) ep'))
theorem ie {h:Heap} {a:Addr} {kws:List (Str×Value)} {ep:Nat} (x:h.DictAt (strKind C.prog C.w) a kws ep):∀o,h.get? a=some o->¬d4 o:=by
 intro o ho
 refine x2_4 x fun o' es ho' hc hd _=>?_;clear x
 rw[ho] at ho';cases Option.some.inj ho'
 simp[d4,hd]
theorem jc (kvs:List (Str×V)) (x:Str) (v:V):(aR kvs x v).length<=kvs.length+1:=by
 unfold aR;split<;>simp
theorem rn:OpSet C k tu:=by
 intro A s σ o i v wo wi w Q P E ao R vo vi vv q hP
 replace q:=isR.elim q
 obtain ⟨a,rfl,q⟩:=q
 replace q:=isS.elim q
 obtain ⟨x,rfl,q⟩:=q
 ·obtain rfl:=vo.invRef;obtain ⟨_,rfl⟩:=vi.invStr
  refine x2_3 q fun kvs ep hx hz q=>?_
  obtain ⟨_,kws,h1,h2⟩:=R.view _ _ hx
  have hl:=h2.length
  refine wpAny_setItem_pairs (knd:=strKind C.prog C.w) (eD x _) h1.dictOf (fun h' hd' hs'=>?_) (by rw[sizeLine_eq,<-hl];omega)
  refine x1_1 hd'.dictAt fun ep' hat=>?_
  have kt:ar s.heap h':=fun b o eb ht=>hs'.extBut b o (by rintro rfl;exact ie h1 o eb ht) eb
  have vl:=jc kvs x v
  exact hP (am σ a (.dict (aR kvs x v) ep')) _ (R.change (tk:=s.toks+1) hx hs' ⟨by omega,_,hat,(h2.stored vv).keep kt⟩) (.change hx hs') (q ep')
noncomputable def px:O2:=fun i o σ Q=>isS i fun x=>isR o fun a=>∃kvs ep,σ a=some (.dict kvs ep)/\Q (.bool (aT kvs x).isSome) σ
theorem tY (O:C.Ok):Op2 C k (compareOp .In) px:=by
 intro A s σ a b wa wb Q P E ao R va vb q hP
 replace q:=isS.elim q
 obtain ⟨x,rfl,q⟩:=q
 replace q:=isR.elim q
 obtain ⟨a,rfl,q⟩:=q
 ·obtain ⟨_,rfl⟩:=va.invStr;obtain rfl:=vb.invRef
  refine x2_2 q fun kvs ep hx q=>?_
  obtain ⟨_,kws,h1,h2⟩:=R.view _ _ hx
  refine wpAny_in_of (knd:=strKind C.prog C.w) (eD x _) (O.noMods (R.apart a (by rw[hx];simp))) h1.dictOf.mapOf ?_
  rw[<-h2.none]
  exact hP _ _ σ _ (.bool _) (R.tok _) Step.refl q
noncomputable def iD:O2:=fun o i σ Q=>isR o fun a=>isS i fun x=>∃kvs ep v,σ a=some (.dict kvs ep)/\aT kvs x=some v/\Q v σ
noncomputable def onO (o:Option AObj) (D:List (Str×V)->Prop) (L:List V->Prop):Prop:=match o with | some (.dict kvs _)=>D kvs | some (.list xs)=>L xs | _=>False
theorem onO.elim {o:Option AObj} {D:List (Str×V)->Prop} {L:List V->Prop} (h:onO o D L):(∃kvs ep,o=some (.dict kvs ep)/\D kvs)\/∃xs,o=some (.list xs)/\L xs:=by
 cases o with
 |none=>exact False.elim h
 |some o=>cases o<;>first | exact .inl ⟨_,_,rfl,h⟩ | exact .inr ⟨_,rfl,h⟩ | exact False.elim h
noncomputable def cM:aK:=fun vs σ Q=>onR vs fun a=>onO (σ a) (fun kvs=>bq (kvs.map fun q=>.str q.1) σ Q) fun xs=>bq xs σ Q
theorem eG {aS:Addr} {h:Heap}:∀(vs:List V) (ws:List Value),ws.length=vs.length->(∀(j:Nat) (v:V) w,vs[j]?=some v->ws[j]?=some w->VRel aS h v w)->VRels aS h vs ws
 |[],[],_,_=>.nil
 |[],_::_,h,_=>by simp at h
 |_::_,[],h,_=>by simp at h
 |v::vs,w::ws,hl,hj=>.cons (hj 0 v w rfl rfl) (eG vs ws (by simpa using hl) fun j v w e1 e2=>hj (j+1) v w (by simpa using e1) (by simpa using e2))
theorem pB (O:C.Ok) (hpl:C.held=Option.none):OpN C k (fun ws=>PySem.call (.type "list") ws) cM:=by
 intro A s σ vs ws Q P E ao R hv q hP
 replace q:=onR.elim q
 obtain ⟨a,rfl,q⟩:=q
 ·obtain ⟨wa,rfl,h1⟩:=hv.inv1
  obtain rfl:=h1.invRef
  rcases onO.elim q with ⟨kvs,ep,hx,q⟩ | ⟨xs,hx,q⟩
  ·obtain ⟨hz,kws,h2,h3⟩:=R.view _ _ hx
   have hl:=h3.length
   refine av (kdl_call (kdl_dict (knd:=strKind C.prog C.w) (kvs:=kws) (ep:=ep) (O.noMods (R.apart a (by rw[hx];simp)))) (ao.none hpl) h2 (kdl_size (by omega)) fun h' tk acc c hk hD hacc=>?_)
   intro hsz
   have hn:=aH s.heap
   have rel:VRels C.aS h' (kvs.map fun q=>.str q.1) acc.toList:=by
    refine eG _ _ (by simp[hacc.1,hl]) fun j v w e1 e2=>?_
    rw[List.getElem?_map] at e1
    obtain ⟨⟨ky,u⟩,e3,rfl⟩:=Option.map_eq_some_iff.mp e1
    obtain ⟨k',x',e4,e5⟩:=hacc.2 j w (by rw[<-Array.getElem?_toList];exact e2)
    refine x1_2 (h3.get e3) fun w' e6 _=>?_
    rw[e6] at e4;cases Option.some.inj e4
    obtain ⟨t,rfl⟩:=Value.isStrOf_shape e5
    exact .str _ _
   refine hP (.ref s.heap.objs.size) _ (am σ s.heap.objs.size (.list (kvs.map fun q=>.str q.1))) _ (.ref _) (R.add (tk:=tk) hk hn ⟨by simp;omega,acc.toList,⟨c,by simpa using hD⟩,rel⟩) (.add hk hsz (Nat.le_refl _)) (q _ (R.freshNone hn))
  ·obtain ⟨hz,us,⟨n,h2⟩,h3⟩:=R.view _ _ hx
   have hl:=h3.length
   refine av (call_list_seq a (.inl rfl) h2 rfl rfl (fun h' c' hk hD=>?_) (by rw[List.size_toArray,sizeLine_eq];omega))
   intro hsz
   have hn:=aH s.heap
   exact hP (.ref s.heap.objs.size) _ (am σ s.heap.objs.size (.list xs)) _ (.ref _) (R.add (tk:=s.toks) hk hn ⟨hz,us,⟨c',by simpa using hD⟩,h3.keep fun b o e _=>hk b o e⟩) (.add hk hsz (Nat.le_refl _)) (q _ (R.freshNone hn))
end
section
variable {C:Cx} {p:Program} {sc:Scope} {k:Nat}
theorem pD {slice:Expr} (hsl:ff slice):Op2 C k (fun o i=>getitemInPython o >>=fun b=>subscripted slice b o i) iD:=by
 intro A s σ a b wa wb Q P E ao R va vb q hP
 replace q:=isR.elim q
 obtain ⟨a,rfl,q⟩:=q
 replace q:=isS.elim q
 obtain ⟨x,rfl,q⟩:=q
 ·obtain rfl:=va.invRef;obtain ⟨_,rfl⟩:=vb.invStr
  refine x3_3 q fun kvs ep v hx hv q=>?_
  obtain ⟨_,kws,h1,h2⟩:=R.view _ _ hx
  refine x1_2 (h2.find hv) fun w e1 e2=>?_
  exact b9 hsl h1.dictOf.typeIs slot_dict_getitem.lookup (wpAny_getItem_of (knd:=strKind C.prog C.w) (eD x _) h1.dictOf.mapOf e1 (hP _ _ σ _ e2 (R.tok _) Step.refl q))
noncomputable def fz:V->ae->Prop
 |.ref a,σ=>∃kvs ep,σ a=some (.dict kvs ep)
 |_,_=>False
theorem ee:rX C "dict" fz:=by
 intro o wo σ s R hv h
 cases hv<;>first | exact h.elim | skip
 refine x2_1 h fun kvs ep hx=>?_;clear h
 obtain ⟨_,ws,h1,h2⟩:=R.view _ _ hx
 exact⟨h1.dictOf.typeIs,h1.dictOf.mapOf.noDict⟩
theorem oz (kvs:List (Str×V)) (x:Str):(dC kvs x).length<=kvs.length:=List.length_filter_le _ _
noncomputable def oX:aK:=fun vs σ Q=>onRS vs fun a x=>∃kvs ep v,σ a=some (.dict kvs ep)/\aT kvs x=some v/\∀ep',Q v (am σ a (.dict (dC kvs x) ep'))
theorem tM:OpN C k (fun ws=>PySem.call (.builtin "dict.pop") ws) oX:=by
 intro A s σ vs ws Q P E ao R hv q hP
 replace q:=onRS.elim q
 obtain ⟨a,x,rfl,q⟩:=q
 ·obtain ⟨wa,wb,rfl,h1,h2⟩:=hv.inv2
  obtain rfl:=h1.invRef;obtain ⟨_,rfl⟩:=h2.invStr
  refine x3_3 q fun kvs ep v hx hv q=>?_
  obtain ⟨hz,kws,h1,h2⟩:=R.view _ _ hx
  refine x1_2 (h2.find hv) fun w e1 e2=>?_
  have hl:=h2.length
  refine call_meetsIn F.slot_dict_pop h1.dictOf.typeIs F.entry_dict_pop (F.args_dict_pop_2 _ _) (meets_dict_pop_there (strKind C.prog C.w) a (eD x _) [] (.inl rfl) rfl) ⟨kws,w,h1.dictOf,by rw[sizeLine_eq];omega,e1,fun h' hd' hs'=>?_⟩
  refine x1_1 hd'.dictAt fun ep' hat=>?_
  have kt:ar s.heap h':=fun b o eb ht=>hs'.extBut b o (by rintro rfl;exact ie h1 o eb ht) eb
  have vl:=oz kvs x
  exact hP v w (am σ a (.dict (dC kvs x) ep')) _ (e2.keep kt) (R.change (tk:=s.toks+1) hx hs' ⟨by omega,_,hat,h2.without.keep kt⟩) (.change hx hs') (q ep')
theorem yW {o:Expr} {apos pos:Pos} {es:List Expr} {To:ET} {L:LT} (ho:HE C sc k o To) (hl:HL C sc k es L) (hp:ah es=true)
  (hbase:∀env,attributeBase o (Str.ofString "pop") env (eval o env)=eval o env) (hline:(apos.endLine == pos.line)=true) (hfew:es.length < 30):HE C sc k (.Call (.Attribute o (Str.ofString "pop") apos) es [] pos) (co fz oX To L):=
 bY ee F.plainAttrs_dict F.slot_dict_pop F.type_dict_pop tM ho hl hp hbase hline hfew
theorem x5 (G:Gl C p) (hpl:C.held=Option.none) {np pos:Pos} {es:List Expr} {L:LT} (hn:sc.names.lookup (Str.ofString "list")=some .globalImplicit) (hl:HL C sc k es L) (hp:ah es=true):HE C sc k (.Call (.Name (Str.ofString "list") np) es [] pos) (bv cM L):=
 d5 G.ok (pB G.ok hpl) hn (G.free _ (by decide)) (G.blt mR (by decide)) rfl hl hp
end
theorem eK {g:Tgt} {inv:ae->Prop} {T:ET} {m:aq} (P:ae->Prop) (R:Nat->V->Prop) (hinv:∀σ,P σ->inv σ) (items:List V) :
  ∀(acc:List V) (n:Nat) (σ:ae) (Q:List V->ae->Prop),acc.length+items.length<=1048576->
  (∀(i:Nat) v,items[i]?=some v->∀σ (Q':V->ae->Prop),P σ->(∀y σ',P σ'->R (n+i) y->Q' y σ')->∃m',bG g v m=some m'/\T m' σ Q')->
  P σ->(∀ys σ',P σ'->ys.length=items.length->(∀(i:Nat) y,ys[i]?=some y->R (n+i) y)->Q (acc++ys) σ')->cq g inv tT T m items acc σ Q:=by
 induction items with
 |nil=>exact fun acc n σ Q hz step p q=>⟨hinv σ p,List.append_nil acc▸q [] σ p rfl fun i y e=>(Option.some_ne_none _ e.symm).elim⟩
 |cons v r ih=>
  intro acc n σ Q hz step p q
  refine⟨hinv σ p,step 0 v rfl σ _ p fun y σ' p' hy=>⟨(ce (y:=y) hz).1,ih (acc++[y]) (n+1) σ' Q (ce hz).2 (fun i v e=>(Nat.succ_add_eq_add_succ n i).symm▸step (i+1) v e) p' fun ys σ'' p'' hl hR=>?_⟩⟩
  rw[List.append_assoc]
  refine q (y::ys) σ'' p'' (congrArg (·+1) hl) fun i z e=>?_
  cases i with
  |zero=>exact Option.some.inj e▸hy
  |succ i=>exact (Nat.succ_add_eq_add_succ n i)▸hR i z e
section
variable {σ:ae} {Q:V->ae->Prop} {ns:List Int}
theorem dY {a b:Addr} {xs ys:List V} (ha:σ a=some (.list xs)) (hb:σ b=some (.list ys)) (hz:xs.length+ys.length<=16777216) (q:bq (xs++ys) σ Q):fZ (.ref a) (.ref b) σ Q:=⟨xs,ys,ha,hb,hz,q⟩
@[simp] theorem vf {m:aq}:qp m σ Q=ld [] σ Q:=rfl
theorem o6 {a:Addr} {kvs:List (Str×V)} {ep:Nat} {x:Str} {v:V} {R:ae->Prop} (h:σ a=some (.dict kvs ep)) (hz:kvs.length < 16777216) (q:∀ep',R (am σ a (.dict (aR kvs x v) ep'))):tu (.ref a) (.str x) v σ R:=⟨kvs,ep,h,hz,q⟩
theorem rH {a:Addr} {kvs:List (Str×V)} {ep:Nat} {x:Str} (h:σ a=some (.dict kvs ep)) (q:Q (.bool (aT kvs x).isSome) σ):px (.str x) (.ref a) σ Q:=⟨kvs,ep,h,q⟩
theorem nQ {a:Addr} {kvs:List (Str×V)} {ep:Nat} {x:Str} {v:V} (h:σ a=some (.dict kvs ep)) (hv:aT kvs x=some v) (q:Q v σ):iD (.ref a) (.str x) σ Q:=⟨kvs,ep,v,h,hv,q⟩
theorem fQ {a:Addr} {kvs:List (Str×V)} {ep:Nat} {x:Str} {v:V} (h:σ a=some (.dict kvs ep)) (hv:aT kvs x=some v) (q:∀ep',Q v (am σ a (.dict (dC kvs x) ep'))):oX [.ref a,.str x] σ Q:=⟨kvs,ep,v,h,hv,q⟩
theorem li {a:Addr} {kvs:List (Str×V)} {ep:Nat} (h:σ a=some (.dict kvs ep)):cM [.ref a] σ Q=bq (kvs.map fun q=>.str q.1) σ Q:=by show onO (σ a) _ _=_;rw[h];rfl
theorem lh {a:Addr} {xs:List V} (h:σ a=some (.list xs)):cM [.ref a] σ Q=bq xs σ Q:=by show onO (σ a) _ _=_;rw[h];rfl
theorem nO {a:Addr} {kvs:List (Str×V)} {ep:Nat} (h:σ a=some (.dict kvs ep)) {R:List V->(ae->Prop)->ae->Prop}:dq ns (.ref a) σ R=R (kvs.map fun q=>.str q.1) (fun σ=>σ a=some (.dict kvs ep)) σ:=by show fj a σ R (σ a)=_;rw[h];rfl
end
theorem cv (kvs:List (Str×V)) (x:Str):(aT kvs x).isSome=decide (x∈kvs.map (·.1)):=by
 unfold aT
 rw[Option.isSome_map,Bool.eq_iff_iff,List.find?_isSome]
 simp
theorem dD {kvs:List (Str×V)} {x:Str} (h:x∈kvs.map (·.1)):∃v,aT kvs x=some v/\(x,v)∈kvs:=by
 have:=cv kvs x
 rw[decide_eq_true h] at this
 refine x1_1 (Option.isSome_iff_exists.mp this) fun v hv=>?_
 refine⟨v,hv,?_⟩
 unfold aT at hv
 obtain ⟨⟨k',v'⟩,h1,h2⟩:=Option.map_eq_some_iff.mp hv
 have h3:=List.find?_some h1
 have h4:=List.mem_of_find?_eq_some h1
 simp at h3 h2
 subst h3;subst h2;exact h4
theorem dB (kvs:List (Str×V)) (k:Str) (v:V):∀x,x∈(aR kvs k v).map (·.1)↔x=k\/x∈kvs.map (·.1):=by
 intro x
 unfold aR
 split
 ·rename_i h
  have e:(kvs.map fun kv=>if kv.1=k then (kv.1,v) else kv).map (·.1)=kvs.map (·.1):=by
   rw[List.map_map];apply List.map_congr_left;intro q _;simp only[Function.comp];split<;>rfl
  rw[e]
  have hk:k∈kvs.map (·.1):=by
   refine x1_2 (List.any_eq_true.mp h) fun q hq e=>?_
   exact List.mem_map.mpr ⟨q,hq,by simpa using e⟩
  constructor
  ·exact .inr
  ·rintro (rfl | h)
   ·exact hk
   ·exact h
 ·simp only[List.map_append,List.mem_append,List.map_cons,List.map_nil,List.mem_singleton]
  constructor
  ·rintro (h | h)
   ·exact .inr h
   ·exact .inl h
  ·rintro (h | h)
   ·exact .inr h
   ·exact .inl h
theorem cX {kvs:List (Str×V)} {k:Str} {v:V} (h:(kvs.map (·.1)).Nodup):((aR kvs k v).map (·.1)).Nodup:=by
 unfold aR
 split
 ·have e:(kvs.map fun kv=>if kv.1=k then (kv.1,v) else kv).map (·.1)=kvs.map (·.1):=by
   rw[List.map_map];apply List.map_congr_left;intro q _;simp only[Function.comp];split<;>rfl
  rw[e];exact h
 ·rename_i hn
  rw[List.map_append,List.nodup_append]
  refine⟨h,by simp,?_⟩
  intro a ha b hb
  simp at hb
  subst hb
  rintro rfl
  refine x1_2 (List.mem_map.mp ha) fun q hq e=>?_
  exact hn (List.any_eq_true.mpr ⟨q,hq,by simpa using e⟩)
theorem mY (kvs:List (Str×V)) (k:Str):∀x,x∈(dC kvs k).map (·.1)↔x≠k/\x∈kvs.map (·.1):=by
 intro x
 unfold dC
 constructor
 ·intro h
  obtain ⟨q,hq,rfl⟩:=List.mem_map.mp h
  refine bH (List.mem_filter.mp hq) fun h1 h2=>?_
  exact⟨by simpa using h2,List.mem_map.mpr ⟨q,h1,rfl⟩⟩
 ·rintro ⟨h1,h2⟩
  obtain ⟨q,hq,rfl⟩:=List.mem_map.mp h2
  exact List.mem_map.mpr ⟨q,List.mem_filter.mpr ⟨hq,by simpa using h1⟩,rfl⟩
theorem kz {kvs:List (Str×V)} {k:Str} (h:(kvs.map (·.1)).Nodup):((dC kvs k).map (·.1)).Nodup:=h.sublist (List.filter_sublist.map _)
section
open AutoSeq1 MeetsSeq MeetsSeq2 MeetsSeq3 SeqRoads2
noncomputable def vN (op:CmpOp) (b:Bool):Bool:=match op with | .Eq=>b | _=>!b
noncomputable def Aq (C:Cx) (A:Around) (s:Shared) (y x:Value) (b:Bool):Prop:=
 ∀(op:CmpOp) (E:Value->Shared->Prop) (Q:Value->Shared->Prop),op=.Eq\/op=.NotEq->Q (.bool (vN op b)) s->wpAny (model C.prog C.w) A (richCompare op y x) Q E s
end
section
open AutoSeq1 MeetsSeq MeetsSeq2 MeetsSeq3 SeqRoads2
end
structure SP (kd:SortKind) (a₀:Array Keyed) (p:Array (Nat×Nat×Nat)) (st:SortSt):Prop where
 perm:(arrOf st).Perm a₀
 kind:kindOf st=kd
 failed:failedOf st=none
 pend:pendingOf st=p
noncomputable def gI (prog:Program) (w:World) (A:Around) (E:Value->Shared->Prop) (s:Shared) (kd:SortKind) (a₀:Array Keyed):Prop:=
 ∀x y,x∈a₀.toList->y∈a₀.toList->∀(Q:Option Bool->SortSt->Prop) (st:SortSt),kindOf st=kd->(∀b,Q (some b) st)->wpS (model prog w) A E s (lt' x y) Q st
section walk
variable {prog:Program} {w:World} {A:Around} {E:Value->Shared->Prop} {s:Shared} {kd:SortKind} {a₀:Array Keyed} {p:Array (Nat×Nat×Nat)}
theorem SP.size {st:SortSt} (h:SP kd a₀ p st):(arrOf st).size=a₀.size:=h.perm.size_eq
theorem SP.setArr {st:SortSt} (h:SP kd a₀ p st) {xs:Array Keyed} (hp:xs.Perm (arrOf st)):SP kd a₀ p (setArr st xs):=⟨hp.trans h.perm,h.kind,h.failed,h.pend⟩
theorem SP.mem {st:SortSt} (h:SP kd a₀ p st):∀x∈(arrOf st).toList,x∈a₀.toList:=fun _ hx=>(Array.perm_iff_toList_perm.mp h.perm).mem_iff.mp hx
theorem aB {β:Type} {st:SortSt} {arr:Array Keyed} {i:Nat} {f:Keyed->StateT SortSt Sem β} {Q:β->SortSt->Prop} (hi:i < arr.size) (h:wpS (model prog w) A E s (f arr[i]) Q st):wpS (model prog w) A E s (elem' arr i >>=f) Q st:=by
 rw[elem'_eq,getElem?_pos arr i hi]
 exact wpS_bind (wpS_pure h)
theorem bi {β:Type} {f:SortSt->StateT SortSt Sem β} {Q:β->SortSt->Prop} {st:SortSt} (h:wpS (model prog w) A E s (f st) Q st):wpS (model prog w) A E s (get >>=f) Q st:=wpS_bind (wpS_get h)
theorem bI {β:Type} {g:SortSt->SortSt} {f:PUnit->StateT SortSt Sem β} {Q:β->SortSt->Prop} {st:SortSt} (h:wpS (model prog w) A E s (f ⟨⟩) Q (g st)):wpS (model prog w) A E s (modify g >>=f) Q st:=wpS_bind (wpS_modify h)
theorem b0 {β:Type} {tag:String} {f:Unit->StateT SortSt Sem β} {Q:β->SortSt->Prop} {st:SortSt} (h:wpS (model prog w) A E s (f ()) Q st):wpS (model prog w) A E s ((liftM (rule tag):StateT SortSt Sem Unit) >>=f) Q st:=wpS_bind (wpS_lift (wpAny_rule ⟨rfl,h⟩))
theorem oK {α β:Type} {m:StateT SortSt Sem α} {f:α->StateT SortSt Sem β} {Q:β->SortSt->Prop} {st:SortSt} (h:∀K,K=f->wpS (model prog w) A E s m (fun a st'=>wpS (model prog w) A E s (K a) Q st') st):wpS (model prog w) A E s (m >>=f) Q st:=wpS_bind (h f rfl)
theorem az {α:Type} {st:SortSt} {c:Prop} [Decidable c] {t e:StateT SortSt Sem α} {Q:α->SortSt->Prop} (h1:c->wpS (model prog w) A E s t Q st) (h2:¬c->wpS (model prog w) A E s e Q st):wpS (model prog w) A E s (if c then t else e) Q st:=by
 by_cases h:c
 ·rw[if_pos h];exact h1 h
 ·rw[if_neg h];exact h2 h
theorem bj {β γ:Type} {lo hi:Nat} {f:Nat->β->StateT SortSt Sem (ForInStep β)} {k:β->StateT SortSt Sem γ} {c:β} {st:SortSt} {Q:γ->SortSt->Prop} (I:Nat->β->SortSt->Prop) (P:β->SortSt->Prop)
  (hstep:∀F,F=f->∀i c st,lo<=i->i < hi->I i c st->wpS (model prog w) A E s (F i c) (fun r st'=>match r with | .done c'=>P c' st' | .yield c'=>I (i+1) c' st') st)
  (hend:∀c st,I (max lo hi) c st->P c st) (hinit:I lo c st) (hpost:∀K,K=k->∀c st,P c st->wpS (model prog w) A E s (K c) Q st):wpS (model prog w) A E s (forIn [lo:hi] c f >>=k) Q st:=
 wpS_bind (wpS_mono (wpS_forRange I (hstep f rfl) hend hinit) (hpost k rfl))
theorem cw {β:Type} {st:SortSt} {i j:Nat} {f:Option Bool->StateT SortSt Sem β} {Q:β->SortSt->Prop} (hL:gI prog w A E s kd a₀) (hB:SP kd a₀ p st) (hi:i < a₀.size) (hj:j < a₀.size)
  (h:∀b,wpS (model prog w) A E s (f (some b)) Q st):wpS (model prog w) A E s (ltAt' i j >>=f) Q st:=by
 rw[<-hB.size] at hi hj
 refine wpS_bind ?_
 rw[ltAt'_eq]
 refine bi ?_
 show wpS _ _ _ _ (do let x <-elem' (arrOf st) i;let y <-elem' (arrOf st) j;lt' x y) _ st
 exact aB hi (aB hj (hL _ _ (hB.mem _ (by simp)) (hB.mem _ (by simp)) _ _ hB.kind h))
theorem io {β:Type} {st:SortSt} {i j:Nat} {f:Unit->StateT SortSt Sem β} {Q:β->SortSt->Prop} (hB:SP kd a₀ p st) (h:∀st',SP kd a₀ p st'->wpS (model prog w) A E s (f ()) Q st'):wpS (model prog w) A E s (reverseSlice' i j >>=f) Q st:=by
 rw[reverseSlice'_eq]
 exact wpS_bind (wpS_modify (h _ (hB.setArr (mirror_perm _ _ _ _))))
inductive BinI (k:Nat) (st:SortSt):Option Bool×Nat×Nat->SortSt->Prop
 |mk (l r:Nat) (h:r<=k):BinI k st (none,l,r) st
theorem te {st:SortSt} {lo n ok:Nat} {Q:Bool->SortSt->Prop} (hL:gI prog w A E s kd a₀) (hn:lo+n<=a₀.size) (hB:SP kd a₀ p st) (h:∀st',SP kd a₀ p st'->Q true st'):wpS (model prog w) A E s (binarySort' lo n ok) Q st:=by
 rw[binarySort'_eq]
 refine bj (fun k c st'=>c=(none,())/\SP kd a₀ p st') (fun c st'=>c=(none,())/\SP kd a₀ p st') ?step (fun _ _ h=>h) ⟨rfl,hB⟩ ?post
 case post=>
  rintro K rfl c st' ⟨rfl,hB'⟩
  exact wpS_pure (h st' hB')
 case step=>
  rintro F rfl k c st' hak hkn ⟨rfl,hB'⟩
  refine bj (fun _ c st''=>BinI k st' c st'') (fun c st''=>BinI k st' c st'') ?istep (fun _ _ h=>h) ⟨0,k,Nat.le_refl _⟩ ?ipost
  case istep=>
   rintro F rfl x c st'' _ hxk ⟨l,r,hrk⟩
   dsimp only
   refine az (fun _=>wpS_pure ⟨l,r,hrk⟩) fun hge=>?_
   have hm:(l+r) / 2 < r:=Nat.div_lt_of_lt_mul (by rw[Nat.two_mul];exact Nat.add_lt_add_right (Nat.lt_of_not_le hge) r)
   refine cw hL hB' (Nat.lt_of_lt_of_le (Nat.add_lt_add_left hkn lo) hn) (Nat.lt_of_lt_of_le (Nat.add_lt_add_left (Nat.lt_of_lt_of_le hm (Nat.le_trans hrk (Nat.le_of_lt hkn))) lo) hn) fun b=>?_
   cases b
   ·exact wpS_pure ⟨_,r,hrk⟩
   ·exact wpS_pure ⟨l,_,Nat.le_trans (Nat.le_of_lt hm) hrk⟩
  case ipost=>
   rintro K rfl c st'' ⟨l,r,hrk⟩
   show wpS _ _ _ _ (do moveDown' (lo+k) (lo+l);pure (ForInStep.yield (none,()))) _ _
   rw[moveDown'_eq]
   exact wpS_bind (wpS_modify (wpS_pure ⟨rfl,hB'.setArr (bubble_perm _ _ _)⟩))
end walk
noncomputable def rV (lo a nrem:Nat):StateT SortSt Sem (Option (Option Nat)×Nat):=
 forIn [a:nrem] ((none,a):Option (Option Nat)×Nat) fun _ c=>do
  let r <-ltAt' (lo+c.snd) (lo+c.snd-1)
  match r with
  |some smaller=>if smaller=true then pure (ForInStep.done (none,c.snd)) else pure (ForInStep.yield (none,c.snd+1))
  |_=>pure (ForInStep.done (some none,c.snd))
noncomputable def nX (lo n nrem:Nat):StateT SortSt Sem (Option Nat):=do
 reverseSlice' lo (lo+n)
 let c <-rV lo n nrem
 match c.fst with
 |some r=>pure r
 |none=>pure (some c.snd)
noncomputable def sP (lo n nrem:Nat):StateT SortSt Sem (Option (Option Nat)×Nat×Nat):=
 forIn [n:nrem] ((none,n,0):Option (Option Nat)×Nat×Nat) fun _ c=>do
  let r <-ltAt' (lo+c.snd.fst) (lo+c.snd.fst-1)
  match r with
  |some smaller=>
   if smaller=true then
    if c.snd.snd > 0 then do
     reverseSlice' (lo+c.snd.fst-(c.snd.snd+1)) (lo+c.snd.fst)
     pure (ForInStep.yield (none,c.snd.fst+1,0))
    else pure (ForInStep.yield (none,c.snd.fst+1,0))
   else do
    let r <-ltAt' (lo+c.snd.fst-1) (lo+c.snd.fst)
    match r with
    |some larger=>
     if larger=true then pure (ForInStep.done (none,c.snd.fst,c.snd.snd))
     else pure (ForInStep.yield (none,c.snd.fst+1,c.snd.snd+1))
    |_=>pure (ForInStep.done (some none,c.snd.fst,c.snd.snd))
  |_=>pure (ForInStep.done (some none,c.snd.fst,c.snd.snd))
noncomputable def mM (lo n nrem:Nat):StateT SortSt Sem (Option Nat):=do
 liftM (rule "list.sort.descending-run")
 let c <-sP lo (n+1) nrem
 match c.fst with
 |some r=>pure r
 |none=>
  if c.snd.snd > 0 then do
   reverseSlice' (lo+c.snd.fst-(c.snd.snd+1)) (lo+c.snd.fst)
   nX lo c.snd.fst nrem
  else nX lo c.snd.fst nrem
theorem n4 (lo nrem:Nat):countRun' lo nrem=(do
  let c <-rV lo 1 nrem
  match c.fst with
  |some r=>pure r
  |none=>
   if (c.snd == nrem)=true then pure (some c.snd)
   else if c.snd > 1 then do
    let r <-ltAt' lo (lo+c.snd-1)
    match r with
    |some rose=>if rose=true then pure (some c.snd) else do
      reverseSlice' lo (lo+c.snd)
      mM lo c.snd nrem
    |_=>pure none
   else mM lo c.snd nrem):=by
 rw[countRun'_eq]
 kernel_rfl
section walk
variable {prog:Program} {w:World} {A:Around} {E:Value->Shared->Prop} {s:Shared} {kd:SortKind} {a₀:Array Keyed} {p:Array (Nat×Nat×Nat)}
theorem oM {β:Type} {st:SortSt} {lo a nrem:Nat} {f:Option (Option Nat)×Nat->StateT SortSt Sem β} {Q:β->SortSt->Prop} (hL:gI prog w A E s kd a₀) (hn:lo+nrem<=a₀.size) (han:a<=nrem) (hB:SP kd a₀ p st)
  (h:∀n,a<=n->n<=nrem->wpS (model prog w) A E s (f (none,n)) Q st):wpS (model prog w) A E s (rV lo a nrem >>=f) Q st:=by
 unfold rV
 refine wpS_bind (wpS_forRange (I:=fun x c st'=>st'=st/\c=(none,x)) ?step ?fin ⟨rfl,rfl⟩)
 case fin=>
  rintro c st' ⟨rfl,rfl⟩
  rw[Nat.max_eq_right han]
  exact h nrem han (Nat.le_refl _)
 case step=>
  rintro x c st' hax hxn ⟨rfl,rfl⟩
  dsimp only
  refine cw hL hB (Nat.lt_of_lt_of_le (Nat.add_lt_add_left hxn lo) hn) (Nat.lt_of_le_of_lt (Nat.sub_le _ _) (Nat.lt_of_lt_of_le (Nat.add_lt_add_left hxn lo) hn)) fun b=>?_
  cases b
  ·exact wpS_pure ⟨rfl,rfl⟩
  ·exact wpS_pure (h x hax (Nat.le_of_lt hxn))
theorem oH {st:SortSt} {lo n nrem:Nat} {Q:Option Nat->SortSt->Prop} (hL:gI prog w A E s kd a₀) (hn:lo+nrem<=a₀.size) (h1:1<=n) (hnn:n<=nrem) (hB:SP kd a₀ p st)
  (h:∀m st',SP kd a₀ p st'->1<=m->m<=nrem->Q (some m) st'):wpS (model prog w) A E s (nX lo n nrem) Q st:=by
 unfold nX
 exact io hB fun st' hB'=>oM hL hn hnn hB' fun m a b=>wpS_pure (h m st' hB' (Nat.le_trans h1 a) b)
inductive FallI (kd:SortKind) (a₀:Array Keyed) (p:Array (Nat×Nat×Nat)) (x:Nat):Option (Option Nat)×Nat×Nat->SortSt->Prop
 |mk (q:Nat) (st:SortSt) (h:SP kd a₀ p st):FallI kd a₀ p x (none,x,q) st
theorem lS {st:SortSt} {lo n nrem:Nat} {Q:Option Nat->SortSt->Prop} (hL:gI prog w A E s kd a₀) (hn:lo+nrem<=a₀.size) (hnn:n+1<=nrem) (hB:SP kd a₀ p st)
  (h:∀m st',SP kd a₀ p st'->1<=m->m<=nrem->Q (some m) st'):wpS (model prog w) A E s (mM lo n nrem) Q st:=by
 unfold mM
 refine b0 ?_
 have fin:∀m q st',n+1<=m->m<=nrem->SP kd a₀ p st'->wpS (model prog w) A E s (if q > 0 then do
   reverseSlice' (lo+m-(q+1)) (lo+m)
   nX lo m nrem
  else nX lo m nrem) Q st':=fun m q st' a b hB'=>
  az (fun _=>io hB' fun st2 hB2=>oH hL hn (Nat.le_trans (Nat.succ_le_succ (Nat.zero_le _)) a) b hB2 h) fun _=>oH hL hn (Nat.le_trans (Nat.succ_le_succ (Nat.zero_le _)) a) b hB' h
 unfold sP
 refine wpS_bind (wpS_forRange (I:=fun x c st'=>FallI kd a₀ p x c st') ?step ?fin ⟨0,st,hB⟩)
 case fin=>
  rintro c st' ⟨q,_,hB'⟩
  rw[Nat.max_eq_right hnn]
  exact fin nrem q st' hnn (Nat.le_refl _) hB'
 case step=>
  rintro x c st' hax hxn ⟨q,_,hB'⟩
  dsimp only
  have h1:=Nat.lt_of_lt_of_le (Nat.add_lt_add_left hxn lo) hn
  have h2:=Nat.lt_of_le_of_lt (Nat.sub_le (lo+x) 1) h1
  refine cw hL hB' h1 h2 fun b=>?_
  cases b
  ·refine cw hL hB' h2 h1 fun b=>?_
   cases b
   ·exact wpS_pure ⟨_,_,hB'⟩
   ·exact wpS_pure (fin x q st' hax (Nat.le_of_lt hxn) hB')
  ·dsimp only
   rw[if_pos rfl]
   exact az (fun _=>io hB' fun st2 hB2=>wpS_pure ⟨_,_,hB2⟩) fun _=>wpS_pure ⟨_,_,hB'⟩
theorem oJ {st:SortSt} {lo nrem:Nat} {Q:Option Nat->SortSt->Prop} (hL:gI prog w A E s kd a₀) (hn:lo+nrem<=a₀.size) (h1:1<=nrem) (hB:SP kd a₀ p st)
  (h:∀m st',SP kd a₀ p st'->1<=m->m<=nrem->Q (some m) st'):wpS (model prog w) A E s (countRun' lo nrem) Q st:=by
 rw[n4]
 refine oM hL hn h1 hB fun n a b=>?_
 dsimp only
 refine az (fun _=>wpS_pure (h n st hB a b)) fun e=>?_
 have hlt:n+1<=nrem:=Nat.lt_of_le_of_ne b fun z=>e (by rw[z];exact beq_self_eq_true _)
 refine az (fun _=>?_) fun _=>lS hL hn hlt hB h
 have h2:=Nat.lt_of_lt_of_le (Nat.add_lt_add_left hlt lo) hn
 refine cw hL hB (Nat.lt_of_le_of_lt (Nat.le_add_right lo n) h2) (Nat.lt_of_le_of_lt (Nat.sub_le _ _) h2) fun b'=>?_
 dsimp only
 exact az (fun _=>wpS_pure (h n st hB a b)) fun _=>io hB fun st' hB'=>lS hL hn hlt hB' h
end walk
noncomputable def cQ:Bool->Keyed->Array Keyed->Nat->Nat->Nat->StateT SortSt Sem (Option Nat):=sortPriv% PySem.Builtin.gallop
noncomputable def jD:Array Keyed->Array Keyed->StateT SortSt Sem (Array Keyed):=sortPriv% PySem.Builtin.mergeLo
noncomputable def jE:Array Keyed->Array Keyed->StateT SortSt Sem (Array Keyed):=sortPriv% PySem.Builtin.mergeHi
noncomputable def uE (left:Bool) (k:Keyed) (arr:Array Keyed) (base i:Nat):StateT SortSt Sem (Option Bool):=do
 let x <-elem' arr (base+i)
 if left then lt' x k else return (<-lt' k x).map (!·)
section walk
variable {prog:Program} {w:World} {A:Around} {E:Value->Shared->Prop} {s:Shared} {kd:SortKind} {a₀:Array Keyed}
theorem tf {β:Type} {st:SortSt} {left:Bool} {k:Keyed} {arr:Array Keyed} {base i:Nat} {f:Option Bool->StateT SortSt Sem β} {Q:β->SortSt->Prop} (hL:gI prog w A E s kd a₀)
  (hk:k∈a₀.toList) (ha:∀x∈arr.toList,x∈a₀.toList) (hi:base+i < arr.size) (hkd:kindOf st=kd) (h:∀b,wpS (model prog w) A E s (f (some b)) Q st):wpS (model prog w) A E s (uE left k arr base i >>=f) Q st:=by
 have m:arr[base+i]∈a₀.toList:=ha _ (by simp)
 refine wpS_bind ?_
 unfold uE
 refine aB hi ?_
 cases left
 ·exact wpS_bind (hL _ _ hk m _ _ hkd fun b=>wpS_pure (h _))
 ·exact hL _ _ m hk _ _ hkd h
theorem oG {α β γ:Type} {Q:α->SortSt->Prop} {st:SortSt} {m:StateT SortSt Sem α} {G:β->γ->StateT SortSt Sem α} (H:β->γ->Prop) (use:(∀x y,H x y->wpS (model prog w) A E s (G x y) Q st)->wpS (model prog w) A E s m Q st)
  (key:∀x y,H x y->wpS (model prog w) A E s (G x y) Q st):wpS (model prog w) A E s m Q st:=use key
inductive GalI (n:Nat) (st:SortSt):Option (Option Nat)×Nat×Nat->SortSt->Prop
 |mk (l o:Nat) (h:o<=n):GalI n st (none,l,o) st
inductive GalJ (st:SortSt):Option (Option Nat)×Nat×Nat->SortSt->Prop
 |mk (l o:Nat):GalJ st (none,l,o) st
theorem bL {st:SortSt} {left:Bool} {k:Keyed} {arr:Array Keyed} {base n hint:Nat} {Q:Option Nat->SortSt->Prop} (hL:gI prog w A E s kd a₀)
  (hk:k∈a₀.toList) (ha:∀x∈arr.toList,x∈a₀.toList) (hn:base+n<=arr.size) (hh:hint < n) (hkd:kindOf st=kd) (h:∀r,r<=n->Q (some r) st) :
  wpS (model prog w) A E s (cQ left k arr base n hint) Q st:=by
 have hb:∀{i:Nat} {β:Type} {f:Option Bool->StateT SortSt Sem β} {Q:β->SortSt->Prop},i < n->(∀b,wpS (model prog w) A E s (f (some b)) Q st)->wpS (model prog w) A E s (uE left k arr base i >>=f) Q st:=
  fun hi h=>tf hL hk ha (Nat.lt_of_lt_of_le (Nat.add_lt_add_left hi base) hn) hkd h
 unfold cQ
 refine hb hh fun b=>?_
 refine' oG (G:=?G) (fun _ hi=>hi<=n) (fun K=>?use) ?key
 case use=>
  cases b with
  |true=>
   refine bj (fun _ c st'=>GalJ st c st') (fun c st'=>GalJ st c st') ?step (fun _ _ h=>h) ⟨0,1⟩ ?post
   case step=>
    rintro F rfl x c st' _ _ ⟨l,o⟩
    dsimp only
    refine az (fun _=>wpS_pure ⟨l,o⟩) fun ho=>?_
    refine hb (Nat.add_lt_of_lt_sub' (Nat.lt_of_not_le ho)) fun b=>?_
    cases b
    ·exact wpS_pure ⟨l,o⟩
    ·exact wpS_pure ⟨o,_⟩
   case post=>
    rintro K2 rfl c st' ⟨l,o⟩
    dsimp only
    have H:hint+min o (n-hint)<=n:=Nat.le_trans (Nat.add_le_add_left (Nat.min_le_right _ _) _) (Nat.le_of_eq (Nat.add_sub_cancel' (Nat.le_of_lt hh)))
    generalize hint+l+1=lo
    generalize hint+min o (n-hint)=hi at H ⊢
    exact K lo hi H
  |false=>
   refine bj (fun _ c st'=>GalJ st c st') (fun c st'=>GalJ st c st') ?step (fun _ _ h=>h) ⟨0,1⟩ ?post
   case step=>
    rintro F rfl x c st' _ _ ⟨l,o⟩
    dsimp only
    refine az (fun _=>wpS_pure ⟨l,o⟩) fun ho=>?_
    refine hb (Nat.lt_of_le_of_lt (Nat.sub_le _ _) hh) fun b=>?_
    cases b
    ·exact wpS_pure ⟨o,_⟩
    ·exact wpS_pure ⟨l,o⟩
   case post=>
    rintro K2 rfl c st' ⟨l,o⟩
    exact K _ _ (Nat.le_trans (Nat.sub_le _ _) (Nat.le_of_lt hh))
 case key=>
  intro lo hi hhi
  refine bj (fun _ c st'=>GalI n st c st') (fun c st'=>GalI n st c st') ?step (fun _ _ h=>h) ⟨lo,hi,hhi⟩ ?post
  case post=>
   rintro K rfl c st' ⟨l,o,hlo⟩
   exact wpS_pure (h o hlo)
  case step=>
   rintro F rfl x c st' _ _ ⟨l,o,hlo⟩
   dsimp only
   refine az (fun _=>wpS_pure ⟨l,o,hlo⟩) fun hge=>?_
   have hm:l+(o-l) / 2 < n:=Nat.lt_of_lt_of_le (Nat.add_lt_of_lt_sub' (Nat.div_lt_self (Nat.sub_pos_of_lt (Nat.lt_of_not_le hge)) (by decide))) hlo
   refine hb hm fun b=>?_
   cases b
   ·exact wpS_pure ⟨l,_,Nat.le_of_lt hm⟩
   ·exact wpS_pure ⟨_,o,hlo⟩
end walk
structure Same (st st':SortSt):Prop where
 kind:kindOf st'=kindOf st
 arr:arrOf st'=arrOf st
 pend:pendingOf st'=pendingOf st
 failed:failedOf st'=failedOf st
theorem Same.refl {st:SortSt}:Same st st:=⟨rfl,rfl,rfl,rfl⟩
theorem Same.trans {a b c:SortSt} (h:Same a b) (k:Same b c):Same a c:=⟨k.kind.trans h.kind,k.arr.trans h.arr,k.pend.trans h.pend,k.failed.trans h.failed⟩
noncomputable def Md (T out ra rb:List Keyed):Prop:=(out++(ra++rb)).Perm T
theorem Md.a {T out x ra rb:List Keyed} (h:Md T out (x++ra) rb):Md T (out++x) ra rb:=by
 unfold Md at *
 rwa [List.append_assoc,<-List.append_assoc x]
theorem Md.b {T out x ra rb:List Keyed} (h:Md T out ra (x++rb)):Md T (out++x) ra rb:=by
 refine List.Perm.trans ?_ h
 rw[List.append_assoc]
 refine List.Perm.append_left _ ?_
 rw[<-List.append_assoc,<-List.append_assoc]
 exact List.Perm.append_right _ List.perm_append_comm
theorem Md.len {T out ra rb:List Keyed} (h:Md T out ra rb):out.length+(ra.length+rb.length)=T.length:=by
 rw[<-h.length_eq,List.length_append,List.length_append]
theorem jY {arr:Array Keyed} {i k:Nat}:arr.toList.drop i=(arr.extract i (i+k)).toList++arr.toList.drop (i+k):=by
 rw[Array.toList_extract,List.extract_eq_take_drop,Nat.add_sub_cancel_left,<-List.drop_drop,List.take_append_drop]
theorem dQ {arr:Array Keyed} {i:Nat}:(arr.extract i arr.size).toList=arr.toList.drop i:=by
 rw[Array.toList_extract,List.extract_eq_take_drop]
 exact List.take_of_length_le (by simp)
theorem jX {arr:Array Keyed} {i:Nat} (hi:i < arr.size):arr.toList.drop i=[arr[i]]++arr.toList.drop (i+1):=by
 rw[List.drop_eq_getElem_cons (by simpa using hi)]
 simp
noncomputable def MdL (a b out:Array Keyed) (i j:Nat):Prop:=Md (a.toList++b.toList) out.toList (a.toList.drop i) (b.toList.drop j)
section
variable {a b out:Array Keyed} {i j:Nat}
theorem MdL.pushA (h:MdL a b out i j) (hi:i < a.size):MdL a b (out.push a[i]) (i+1) j:=by
 unfold MdL at *
 rw[jX hi] at h
 rw[Array.toList_push]
 exact h.a
theorem MdL.pushB (h:MdL a b out i j) (hi:j < b.size):MdL a b (out.push b[j]) i (j+1):=by
 unfold MdL at *
 rw[jX hi] at h
 rw[Array.toList_push]
 exact h.b
theorem MdL.appA {k:Nat} (h:MdL a b out i j):MdL a b (out++a.extract i (i+k)) (i+k) j:=by
 unfold MdL at *
 rw[jY (k:=k)] at h
 rw[Array.toList_append]
 exact h.a
theorem MdL.appB {k:Nat} (h:MdL a b out i j):MdL a b (out++b.extract j (j+k)) i (j+k):=by
 unfold MdL at *
 rw[jY (arr:=b) (k:=k)] at h
 rw[Array.toList_append]
 exact h.b
theorem MdL.done (h:MdL a b out i j):(out++a.extract i a.size++b.extract j b.size).toList.Perm (a.toList++b.toList):=by
 rw[Array.toList_append,Array.toList_append,dQ,dQ,List.append_assoc]
 exact h
theorem MdL.last (h:MdL a b out i j):(out++b.extract j b.size++a.extract i a.size).toList.Perm (a.toList++b.toList):=by
 rw[Array.toList_append,Array.toList_append,dQ,dQ,List.append_assoc]
 exact (List.Perm.append_left _ List.perm_append_comm).trans h
theorem MdL.size (h:MdL a b out i j):out.size<=a.size+b.size:=by
 have:=Md.len h
 rw[List.length_append,Array.length_toList,Array.length_toList,Array.length_toList] at this
 exact Nat.le_trans (Nat.le_add_right _ _) (Nat.le_of_eq this)
end
inductive LoD (a b:Array Keyed) {γ:Type}:Option (Array Keyed)×γ->Prop
 |mk (m:Array Keyed) (r:γ) (h:m.toList.Perm (a.toList++b.toList)):LoD a b (some m,r)
inductive LoI (a b:Array Keyed) (n:Nat) {γ:Type}:Option (Array Keyed)×Array Keyed×Nat×Nat×γ->Prop
 |mk (out:Array Keyed) (i j:Nat) (r:γ) (hM:MdL a b out i j) (hi:i+1 < a.size) (hj:j < b.size) (hr:n<=out.size):LoI a b n (none,out,i,j,r)
theorem bU {n:Nat} {out:Array Keyed} {v:Keyed} (h:n<=out.size):n+1<=(out.push v).size:=by rw[Array.size_push];exact Nat.succ_le_succ h
theorem iY {n:Nat} {out x:Array Keyed} (h:n<=out.size):n<=(out++x).size:=by rw[Array.size_append];exact Nat.le_trans h (Nat.le_add_right _ _)
noncomputable def q6:Nat->StateT SortSt Sem Unit:=sortPriv% PySem.Builtin.setMinGallop
abbrev vj:=Option (Array Keyed)×Array Keyed×Nat×Nat×Nat×Nat×Nat
noncomputable def yx (a b:Array Keyed) (mg ac bc:Nat) (out:Array Keyed) (ia ib:Nat):StateT SortSt Sem (ForInStep vj):=do
 let x <-elem' a ia
 if (ia+1+1 == a.size)=true then pure (.done (some (out.push x++b.extract ib b.size++a.extract (ia+1) a.size),out.push x,ia+1,ib,mg,ac,bc))
 else if (decide (ac < 7)&&decide (bc < 7))=true then pure (.done (none,out.push x,ia+1,ib,mg,ac,bc))
 else pure (.yield (none,out.push x,ia+1,ib,mg,ac,bc))
noncomputable def yy (a b:Array Keyed) (mg ac bc:Nat) (out:Array Keyed) (ia ib:Nat):StateT SortSt Sem (ForInStep vj):=do
 let x <-elem' b ib
 if (ib+1 == b.size)=true then pure (.done (some (out.push x++a.extract ia a.size++b.extract (ib+1) b.size),out.push x,ia,ib+1,mg,ac,bc))
 else do
  let y <-elem' a ia
  let r <-cQ true y b (ib+1) (b.size-(ib+1)) 0
  match r with
  |some k=>
   if k > 0 then
    if (ib+1+k == b.size)=true then pure (.done (some (out.push x++b.extract (ib+1) (ib+1+k)++a.extract ia a.size++b.extract (ib+1+k) b.size),out.push x++b.extract (ib+1) (ib+1+k),ia,ib+1+k,mg,ac,k))
    else yx a b mg ac k (out.push x++b.extract (ib+1) (ib+1+k)) ia (ib+1+k)
   else yx a b mg ac k (out.push x) ia (ib+1)
  |_=>pure (.done (some (out.push x++a.extract ia a.size++b.extract (ib+1) b.size),out.push x,ia,ib+1,mg,ac,bc))
noncomputable def yz (a b:Array Keyed) (mg ac bc:Nat) (out:Array Keyed) (ia ib:Nat):StateT SortSt Sem (ForInStep vj):=do
 q6 mg
 let x <-elem' b ib
 let r <-cQ false x a ia (a.size-ia) 0
 match r with
 |some k=>
  if k > 0 then
   if (ia+k+1 == a.size)=true then pure (.done (some (out++a.extract ia (ia+k)++b.extract ib b.size++a.extract (ia+k) a.size),out++a.extract ia (ia+k),ia+k,ib,mg,k,bc))
   else if (ia+k == a.size)=true then pure (.done (some (out++a.extract ia (ia+k)++a.extract (ia+k) a.size++b.extract ib b.size),out++a.extract ia (ia+k),ia+k,ib,mg,k,bc))
   else yy a b mg k bc (out++a.extract ia (ia+k)) (ia+k) ib
  else yy a b mg k bc out ia ib
 |_=>pure (.done (some (out++a.extract ia a.size++b.extract ib b.size),out,ia,ib,mg,ac,bc))
noncomputable def AJ (a b:Array Keyed) (_:Nat) (c:vj):StateT SortSt Sem (ForInStep vj):=
 if c.2.2.2.2.1 > 1 then yz a b (c.2.2.2.2.1-1) c.2.2.2.2.2.1 c.2.2.2.2.2.2 c.2.1 c.2.2.1 c.2.2.2.1 else yz a b c.2.2.2.2.1 c.2.2.2.2.2.1 c.2.2.2.2.2.2 c.2.1 c.2.2.1 c.2.2.2.1
noncomputable def zK (a b:Array Keyed) (mg _x:Nat) (c:Option (Array Keyed)×Array Keyed×Nat×Nat×Nat×Nat):StateT SortSt Sem (ForInStep (Option (Array Keyed)×Array Keyed×Nat×Nat×Nat×Nat)):=do
 let x <-elem' b c.2.2.2.1
 let y <-elem' a c.2.2.1
 let r <-lt' x y
 match r with
 |some w=>
  if w=true then do
   let x <-elem' b c.2.2.2.1
   if (c.2.2.2.1+1 == b.size)=true then pure (.done (some (c.2.1.push x++a.extract c.2.2.1 a.size++b.extract (c.2.2.2.1+1) b.size),c.2.1.push x,c.2.2.1,c.2.2.2.1+1,0,c.2.2.2.2.2+1))
   else if c.2.2.2.2.2+1>=mg then pure (.done (none,c.2.1.push x,c.2.2.1,c.2.2.2.1+1,0,c.2.2.2.2.2+1)) else pure (.yield (none,c.2.1.push x,c.2.2.1,c.2.2.2.1+1,0,c.2.2.2.2.2+1))
  else do
   let x <-elem' a c.2.2.1
   if (c.2.2.1+1+1 == a.size)=true then pure (.done (some (c.2.1.push x++b.extract c.2.2.2.1 b.size++a.extract (c.2.2.1+1) a.size),c.2.1.push x,c.2.2.1+1,c.2.2.2.1,c.2.2.2.2.1+1,0))
   else if c.2.2.2.2.1+1>=mg then pure (.done (none,c.2.1.push x,c.2.2.1+1,c.2.2.2.1,c.2.2.2.2.1+1,0)) else pure (.yield (none,c.2.1.push x,c.2.2.1+1,c.2.2.2.1,c.2.2.2.2.1+1,0))
 |_=>pure (.done (some (c.2.1++a.extract c.2.2.1 a.size++b.extract c.2.2.2.1 b.size),c.2.1,c.2.2.1,c.2.2.2.1,c.2.2.2.2.1,c.2.2.2.2.2))
noncomputable def zJ (a b:Array Keyed) (_:Nat) (c:Option (Array Keyed)×Array Keyed×Nat×Nat×Nat):StateT SortSt Sem (ForInStep (Option (Array Keyed)×Array Keyed×Nat×Nat×Nat)):=do
 let d <-forIn [0:a.size+b.size] ((none,c.2.1,c.2.2.1,c.2.2.2.1,0,0):Option (Array Keyed)×Array Keyed×Nat×Nat×Nat×Nat) (zK a b c.2.2.2.2)
 Break.runK.match_1 (fun _=>StateT SortSt Sem _) d.1 (fun r=>pure (.done (some r,d.2.1,d.2.2.1,d.2.2.2.1,c.2.2.2.2))) fun _=>do
  liftM (rule "list.sort.gallop")
  let e <-forIn [0:a.size+b.size] ((none,d.2.1,d.2.2.1,d.2.2.2.1,c.2.2.2.2+1,d.2.2.2.2.1,d.2.2.2.2.2):vj) (AJ a b)
  Break.runK.match_1 (fun _=>StateT SortSt Sem _) e.1 (fun r=>pure (.done (some r,e.2.1,e.2.2.1,e.2.2.2.1,e.2.2.2.2.1))) fun _=>do
   q6 (e.2.2.2.2.1+1)
   pure (.yield (none,e.2.1,e.2.2.1,e.2.2.2.1,e.2.2.2.2.1+1))
noncomputable def AK (a b:Array Keyed):StateT SortSt Sem (Array Keyed):=do
 liftM (rule "list.sort.merge-lo")
 let x <-elem' b 0
 if (1 == b.size)=true then pure (#[x]++a.extract 0 a.size++b.extract 1 b.size)
 else if (0+1 == a.size)=true then pure (#[x]++b.extract 1 b.size++a.extract 0 a.size)
 else do
  let st <-get
  let c <-forIn [0:a.size+b.size] ((none,#[x],0,1,gallopOf st):Option (Array Keyed)×Array Keyed×Nat×Nat×Nat) (zJ a b)
  Break.runK.match_1 (fun _=>StateT SortSt Sem _) c.1 pure fun _=>liftM (unsupported "internal:list.sort.merge-bound":Sem (Array Keyed))
theorem wH (a b:Array Keyed):jD a b=AK a b:=rfl
section walk
variable {prog:Program} {w:World} {A:Around} {E:Value->Shared->Prop} {s:Shared} {kd:SortKind} {a₀:Array Keyed}
theorem lT {β:Type} {st:SortSt} {a b:Array Keyed} {i j:Nat} {f:Option Bool->StateT SortSt Sem β} {Q:β->SortSt->Prop} (hL:gI prog w A E s kd a₀) (ha:∀x∈a.toList,x∈a₀.toList) (hb:∀x∈b.toList,x∈a₀.toList)
  (hi:i < a.size) (hj:j < b.size) (hkd:kindOf st=kd) (h:∀b,wpS (model prog w) A E s (f (some b)) Q st):wpS (model prog w) A E s (elem' a i >>=fun x=>elem' b j >>=fun y=>lt' x y >>=f) Q st:=
 aB hi (aB hj (wpS_bind (hL _ _ (ha _ (by simp)) (hb _ (by simp)) _ _ hkd h)))
theorem f0 {n m:Nat} (h:n < m) (e:¬(n+1 == m)=true):n+1 < m:=Nat.lt_of_le_of_ne h fun z=>e (by rw[z];exact beq_self_eq_true _)
inductive LoR {β:Type} (D I:β->Prop) (st:SortSt):ForInStep β->SortSt->Prop
 |done (st':SortSt) (c:β) (hS:Same st st') (h:D c):LoR D I st (.done c) st'
 |stop (st':SortSt) (c:β) (hS:Same st st') (h:I c):LoR D I st (.done c) st'
 |go (st':SortSt) (c:β) (hS:Same st st') (h:I c):LoR D I st (.yield c) st'
inductive LoP {β:Type} (D I:β->Prop) (st:SortSt) (c:β) (st':SortSt):Prop
 |done (hS:Same st st') (h:D c):LoP D I st c st'
 |go (hS:Same st st') (h:I c):LoP D I st c st'
inductive LoQ {β:Type} (D I:β->Prop) (st:SortSt):ForInStep β->SortSt->Prop
 |done (st':SortSt) (c:β) (hS:Same st st') (h:D c):LoQ D I st (.done c) st'
 |go (st':SortSt) (c:β) (hS:Same st st') (h:I c):LoQ D I st (.yield c) st'
theorem dF {β γ:Type} {n:Nat} {x:β} {f:Nat->β->StateT SortSt Sem (ForInStep β)} {k:β->StateT SortSt Sem γ} {Q:γ->SortSt->Prop} {st st':SortSt} (D J:β->Prop) (I:Nat->β->Prop)
  (hf:∀i c st',Same st st'->I i c->wpS (model prog w) A E s (f i c) (LoR D (I (i+1)) st) st') (hIJ:∀i c,I (i+1) c->J c) (hn:0 < n) (hS:Same st st') (h0:I 0 x) (hk:∀c st',LoP D J st c st'->wpS (model prog w) A E s (k c) Q st') :
  wpS (model prog w) A E s (forIn [0:n] x f >>=k) Q st':=by
 refine bj (fun y c st''=>Same st st''/\I y c) (fun c st''=>LoP D J st c st'') ?_ ?_ ⟨hS,h0⟩ ?_
 ·rintro F rfl y c st'' _ _ ⟨hS,hI⟩
  refine wpS_mono (hf y c st'' hS hI) fun r st3 hR=>?_
  cases hR with
  |done _ c hS h=>exact .done hS h
  |stop _ c hS h=>exact .go hS (hIJ _ _ h)
  |go _ c hS h=>exact⟨hS,h⟩
 ·rintro c st'' ⟨hS,hI⟩
  refine x1_1 (Nat.exists_eq_add_of_lt hn) fun m e=>?_
  rw[e,Nat.zero_add,Nat.max_eq_right (Nat.zero_le _)] at hI
  exact .go hS (hIJ _ _ hI)
 ·rintro K rfl c st'' h
  exact hk c st'' h
theorem wI {st st':SortSt} {a b out:Array Keyed} {N mg ac bc ia ib:Nat} (hS:Same st st') (hM:MdL a b out ia ib) (hi:ia+1 < a.size) (hj:ib < b.size) (hr:N<=out.size) :
  wpS (model prog w) A E s (yx a b mg ac bc out ia ib) (LoR (LoD a b) (LoI a b N) st) st':=by
 unfold yx
 have h2:=hM.pushA (Nat.lt_of_succ_lt hi)
 refine aB (Nat.lt_of_succ_lt hi) ?_
 refine az (fun e=>wpS_pure (.done _ _ hS ⟨_,_,h2.last⟩)) fun e=>?_
 have h3:LoI a b N (none,out.push a[ia],ia+1,ib,mg,ac,bc):=⟨_,_,_,_,h2,f0 hi e,hj,Nat.le_of_succ_le (bU hr)⟩
 exact az (fun _=>wpS_pure (.stop _ _ hS h3)) fun _=>wpS_pure (.go _ _ hS h3)
theorem wJ {st st':SortSt} {a b out:Array Keyed} {N mg ac bc ia ib:Nat} (hL:gI prog w A E s kd a₀) (ha:∀x∈a.toList,x∈a₀.toList) (hb:∀x∈b.toList,x∈a₀.toList) (hkd:kindOf st=kd) (hS:Same st st') (hM:MdL a b out ia ib) (hi:ia+1 < a.size) (hj:ib < b.size) (hr:N<=out.size) :
  wpS (model prog w) A E s (yy a b mg ac bc out ia ib) (LoR (LoD a b) (LoI a b N) st) st':=by
 unfold yy
 have h2:=hM.pushB hj
 have hr1:N<=(out.push b[ib]).size:=Nat.le_of_succ_le (bU hr)
 refine aB hj ?_
 refine az (fun e=>wpS_pure (.done _ _ hS ⟨_,_,h2.done⟩)) fun e=>?_
 have hj1:=f0 hj e
 refine aB (Nat.lt_of_succ_lt hi) ?_
 refine wpS_bind (bL hL (ha _ (by simp)) hb (Nat.le_of_eq (Nat.add_sub_cancel' (Nat.le_of_lt hj1))) (Nat.sub_pos_of_lt hj1) (hS.kind.trans hkd) fun k l=>?_)
 refine az (fun _=>?_) fun _=>wI hS h2 hi hj1 hr1
 have h3:=h2.appB (k:=k)
 refine az (fun e=>wpS_pure (.done _ _ hS ⟨_,_,h3.done⟩)) fun e=>?_
 refine wI hS h3 hi (Nat.lt_of_le_of_ne (Nat.add_le_of_le_sub' (Nat.le_of_lt hj1) l) fun z=>e (by rw[z];exact beq_self_eq_true _)) (iY hr1)
theorem zH {st st':SortSt} {a b:Array Keyed} {N x:Nat} {c:Option (Array Keyed)×Array Keyed×Nat×Nat×Nat×Nat×Nat} (hL:gI prog w A E s kd a₀) (ha:∀x∈a.toList,x∈a₀.toList) (hb:∀x∈b.toList,x∈a₀.toList) (hkd:kindOf st=kd) (hS:Same st st') (hI:LoI a b N c) :
  wpS (model prog w) A E s (AJ a b x c) (LoR (LoD a b) (LoI a b N) st) st':=by
 obtain ⟨out,i,j,⟨g,p,q⟩,hM,hi,hj,hr⟩:=hI
 have key:∀mg,wpS (model prog w) A E s (yz a b mg p q out i j) (LoR (LoD a b) (LoI a b N) st) st':=fun mg=>by
  unfold yz
  refine bI ?_
  have hS:=hS.trans (c:=SortSt.mk' (kindOf st') (arrOf st') (pendingOf st') mg (failedOf st')) ⟨rfl,rfl,rfl,rfl⟩
  refine aB hj ?_
  refine wpS_bind (bL hL (hb _ (by simp)) ha (Nat.le_of_eq (Nat.add_sub_cancel' (Nat.le_of_lt (Nat.lt_of_succ_lt hi)))) (Nat.sub_pos_of_lt (Nat.lt_of_succ_lt hi)) (hS.kind.trans hkd) fun k l=>?_)
  refine az (fun _=>?_) fun _=>wJ hL ha hb hkd hS hM hi hj hr
  have h3:=hM.appA (k:=k)
  refine az (fun e=>wpS_pure (.done _ _ hS ⟨_,_,h3.last⟩)) fun e3=>?_
  refine az (fun e=>wpS_pure (.done _ _ hS ⟨_,_,h3.done⟩)) fun e4=>?_
  refine wJ hL ha hb hkd hS h3 (f0 (Nat.lt_of_le_of_ne (Nat.add_le_of_le_sub' (Nat.le_of_lt (Nat.lt_of_succ_lt hi)) l) fun z=>e4 (by rw[z];exact beq_self_eq_true _)) e3) hj (iY hr)
 exact az (fun _=>key _) fun _=>key _
theorem zI {st st':SortSt} {a b:Array Keyed} {N mg x:Nat} {c:Option (Array Keyed)×Array Keyed×Nat×Nat×Nat×Nat} (hL:gI prog w A E s kd a₀) (ha:∀x∈a.toList,x∈a₀.toList) (hb:∀x∈b.toList,x∈a₀.toList) (hkd:kindOf st=kd) (hS:Same st st') (hI:LoI a b N c) :
  wpS (model prog w) A E s (zK a b mg x c) (LoR (LoD a b) (LoI a b (N+1)) st) st':=by
 obtain ⟨out,i,j,⟨p,q⟩,hM,hi,hj,hr⟩:=hI
 have hi1:i < a.size:=Nat.lt_of_succ_lt hi
 unfold zK
 refine lT hL hb ha hj hi1 (hS.kind.trans hkd) fun bw=>?_
 cases bw with
 |true=>
  have h2:=hM.pushB hj
  refine aB hj ?_
  refine az (fun e=>wpS_pure (.done _ _ hS ⟨_,_,h2.done⟩)) fun e=>?_
  have h3:LoI a b (N+1) (none,out.push b[j],i,j+1,0,q+1):=⟨_,_,_,_,h2,hi,f0 hj e,bU hr⟩
  exact az (fun _=>wpS_pure (.stop _ _ hS h3)) fun _=>wpS_pure (.go _ _ hS h3)
 |false=>
  have h2:=hM.pushA hi1
  refine aB hi1 ?_
  refine az (fun e=>wpS_pure (.done _ _ hS ⟨_,_,h2.last⟩)) fun e=>?_
  have h3:LoI a b (N+1) (none,out.push a[i],i+1,j,p+1,0):=⟨_,_,_,_,h2,f0 hi e,hj,bU hr⟩
  exact az (fun _=>wpS_pure (.stop _ _ hS h3)) fun _=>wpS_pure (.go _ _ hS h3)
theorem LoI.le {a b:Array Keyed} {n m:Nat} {γ:Type} {c:Option (Array Keyed)×Array Keyed×Nat×Nat×γ} (h:LoI a b n c) (hm:m<=n):LoI a b m c:=by
 cases h with
 |mk _ _ _ _ h1 h2 h3 h4=>exact⟨_,_,_,_,h1,h2,h3,Nat.le_trans hm h4⟩
theorem zG {st st':SortSt} {a b:Array Keyed} {N x:Nat} {c:Option (Array Keyed)×Array Keyed×Nat×Nat×Nat} (hL:gI prog w A E s kd a₀) (ha:∀x∈a.toList,x∈a₀.toList) (hb:∀x∈b.toList,x∈a₀.toList) (na:0 < a.size) (hkd:kindOf st=kd) (hS:Same st st') (hI:LoI a b N c) :
  wpS (model prog w) A E s (zJ a b x c) (LoQ (LoD a b) (LoI a b (N+1)) st) st':=by
 obtain ⟨out,i,j,mg,hM,hi,hj,hr⟩:=hI
 unfold zJ
 have tot:=Nat.add_pos_left na b.size
 refine dF (LoD a b) (LoI a b (N+1)) (fun y=>LoI a b (N+y)) (fun y c st'' hS hI=>zI hL ha hb hkd hS hI) (fun y c h=>h.le (Nat.succ_le_succ (Nat.le_add_right N y))) tot hS ⟨_,i,j,_,hM,hi,hj,hr⟩ fun c st'' hP=>?_
 rcases hP with ⟨hS2,⟨m,r,hG⟩⟩ | ⟨hS2,⟨out',i',j',⟨p,q⟩,hM',hi',hj',hr'⟩⟩
 ·exact wpS_pure (.done _ _ hS2 ⟨m,_,hG⟩)
 refine b0 ?_
 refine dF (LoD a b) (LoI a b (N+1)) (fun _=>LoI a b (N+1)) (fun y c st'' hS hI=>zH hL ha hb hkd hS hI) (fun y c h=>h) tot hS2 ⟨_,i',j',_,hM',hi',hj',hr'⟩ fun c st3 hP=>?_
 rcases hP with ⟨hS3,⟨m,r,hG⟩⟩ | ⟨hS3,⟨out',i',j',⟨g,p,q⟩,hM',hi',hj',hr'⟩⟩
 ·exact wpS_pure (.done _ _ hS3 ⟨m,_,hG⟩)
 refine bI ?_
 exact wpS_pure (.go _ _ (hS3.trans ⟨rfl,rfl,rfl,rfl⟩) ⟨_,_,_,_,hM',hi',hj',hr'⟩)
theorem vO {st:SortSt} {a b:Array Keyed} {Q:Array Keyed->SortSt->Prop} (hL:gI prog w A E s kd a₀) (ha:∀x∈a.toList,x∈a₀.toList) (hb:∀x∈b.toList,x∈a₀.toList) (na:0 < a.size) (nb:0 < b.size) (hkd:kindOf st=kd)
  (h:∀m st',m.toList.Perm (a.toList++b.toList)->Same st st'->Q m st'):wpS (model prog w) A E s (jD a b) Q st:=by
 have m0:MdL a b #[b[0]] 0 1:=(show MdL a b #[] 0 0 from List.Perm.refl _).pushB nb
 rw[wH]
 unfold AK
 refine b0 ?_
 refine aB nb ?_
 refine az (fun e1=>wpS_pure (h _ _ m0.done Same.refl)) fun e1=>?_
 refine az (fun e2=>wpS_pure (h _ _ m0.last Same.refl)) fun e2=>?_
 refine bi ?_
 refine bj (fun x c st'=>Same st st'/\LoI a b (x+1) c) (fun c st'=>Same st st'/\LoD a b c) ?_ ?_ ⟨Same.refl,_,0,1,_,m0,f0 na e2,f0 nb e1,Nat.le_refl _⟩ ?_
 ·rintro F rfl x c st' _ _ ⟨hS,hI⟩
  refine wpS_mono (zG hL ha hb na hkd hS hI) fun r st3 hR=>?_
  cases hR with
  |done _ c hS h=>exact⟨hS,h⟩
  |go _ c hS h=>exact⟨hS,h⟩
 ·rintro c st' ⟨hS,out,i,j,mg,hM,hi,hj,hx⟩
  exact absurd (Nat.le_trans hx hM.size) (Nat.not_le.mpr (Nat.lt_succ_of_le (Nat.le_max_right _ _)))
 ·rintro K rfl c st' ⟨hS,m,r,hG⟩
  exact wpS_pure (h m st' hG hS)
end walk
theorem dG {arr:Array Keyed} {i j:Nat} (hij:i<=j):arr.toList.take j=arr.toList.take i++(arr.extract i j).toList:=by
 rw[Array.toList_extract,List.extract_eq_take_drop]
 obtain ⟨k,rfl⟩:=Nat.exists_eq_add_of_le hij
 rw[Nat.add_sub_cancel_left,List.take_add]
theorem dP {arr:Array Keyed} {i:Nat}:(arr.extract 0 i).toList=arr.toList.take i:=by
 rw[Array.toList_extract,List.extract_eq_take_drop]
 simp
theorem ji {arr:Array Keyed} {i:Nat} (hi:i < arr.size):arr.toList.take (i+1)=arr.toList.take i++[arr[i]]:=by
 rw[List.take_add_one,List.getElem?_eq_getElem (by simpa using hi)]
 simp
noncomputable def MdH (a b out:Array Keyed) (i j:Nat):Prop:=Md (a.toList++b.toList) out.toList (a.toList.take i) (b.toList.take j)
theorem Md.swA {T out ra x rb:List Keyed} (h:Md T out (ra++x) rb):Md T out (x++ra) rb:=List.Perm.trans (List.Perm.append_left _ (List.Perm.append_right _ List.perm_append_comm)) h
theorem Md.swB {T out ra x rb:List Keyed} (h:Md T out ra (rb++x)):Md T out ra (x++rb):=List.Perm.trans (List.Perm.append_left _ (List.Perm.append_left _ List.perm_append_comm)) h
section
variable {a b out:Array Keyed} {i j:Nat}
theorem MdH.pushA (h:MdH a b out i j) (h0:0 < i) (hi:i-1 < a.size):MdH a b (out.push a[i-1]) (i-1) j:=by
 rw[<-Nat.sub_add_cancel h0] at h
 unfold MdH at *
 rw[ji hi] at h
 rw[Array.toList_push]
 exact h.swA.a
theorem MdH.pushB (h:MdH a b out i j) (h0:0 < j) (hi:j-1 < b.size):MdH a b (out.push b[j-1]) i (j-1):=by
 rw[<-Nat.sub_add_cancel h0] at h
 unfold MdH at *
 rw[ji hi] at h
 rw[Array.toList_push]
 exact h.swB.b
theorem Md.rev {T out x ra rb:List Keyed} (h:Md T (out++x) ra rb):Md T (out++x.reverse) ra rb:=List.Perm.trans (List.Perm.append_right _ (List.Perm.append_left _ (List.reverse_perm x))) h
theorem MdH.appA {k:Nat} (h:MdH a b out i j) (hk:k<=i):MdH a b (out++(a.extract k i).reverse) k j:=by
 unfold MdH at *
 rw[dG hk] at h
 rw[Array.toList_append,Array.toList_reverse]
 exact h.swA.a.rev
theorem MdH.appB {k:Nat} (h:MdH a b out i j) (hk:k<=j):MdH a b (out++(b.extract k j).reverse) i k:=by
 unfold MdH at *
 rw[dG (arr:=b) hk] at h
 rw[Array.toList_append,Array.toList_reverse]
 exact h.swB.b.rev
theorem MdH.done (h:MdH a b out i j):(a.extract 0 i++b.extract 0 j++out.reverse).toList.Perm (a.toList++b.toList):=by
 rw[Array.toList_append,Array.toList_append,dP,dP,Array.toList_reverse]
 exact ((List.Perm.append_left _ (List.reverse_perm _)).trans List.perm_append_comm).trans h
theorem MdH.last (h:MdH a b out i j):(b.extract 0 j++a.extract 0 i++out.reverse).toList.Perm (a.toList++b.toList):=by
 rw[Array.toList_append,Array.toList_append,dP,dP,Array.toList_reverse]
 exact ((List.Perm.append_left _ (List.reverse_perm _)).trans List.perm_append_comm).trans ((List.Perm.append_left _ List.perm_append_comm).trans h)
theorem MdH.size (h:MdH a b out i j):out.size<=a.size+b.size:=by
 have:=Md.len h
 rw[List.length_append,Array.length_toList,Array.length_toList,Array.length_toList] at this
 exact Nat.le_trans (Nat.le_add_right _ _) (Nat.le_of_eq this)
end
inductive HiI (a b:Array Keyed) (n:Nat) {γ:Type}:Option (Array Keyed)×Nat×Nat×Array Keyed×γ->Prop
 |mk (i j:Nat) (out:Array Keyed) (r:γ) (hM:MdH a b out i j) (h0:0 < i) (hi:i<=a.size) (g0:1 < j) (hj:j<=b.size) (hr:n<=out.size):HiI a b n (none,i,j,out,r)
theorem p1 {i n:Nat} (h0:0 < i) (h:i<=n):i-1 < n:=Nat.lt_of_lt_of_le (Nat.sub_lt h0 Nat.one_pos) h
theorem n0 {n:Nat} (e:¬(n == 0)=true):0 < n:=Nat.pos_of_ne_zero fun z=>e (by rw[z];rfl)
theorem n1 {n:Nat} (e:¬(n == 1)=true) (h:0 < n):1 < n:=Nat.lt_of_le_of_ne h fun z=>e (by rw[<-z];rfl)
abbrev uL:=Option (Array Keyed)×Nat×Nat×Array Keyed×Nat×Nat×Nat
noncomputable def yG (a b:Array Keyed) (mg ac bc na nb:Nat) (out:Array Keyed):StateT SortSt Sem (ForInStep uL):=do
 let x <-elem' a (na-1)
 if (na-1 == 0)=true then pure (.done (some (a.extract 0 (na-1)++b.extract 0 nb++(out.push x).reverse),na-1,nb,out.push x,mg,ac,bc))
 else if (decide (ac < 7)&&decide (bc < 7))=true then pure (.done (none,na-1,nb,out.push x,mg,ac,bc))
 else pure (.yield (none,na-1,nb,out.push x,mg,ac,bc))
noncomputable def yH (a b:Array Keyed) (mg ac bc na nb:Nat) (out:Array Keyed):StateT SortSt Sem (ForInStep uL):=do
 let x <-elem' b (nb-1)
 if (nb-1 == 1)=true then pure (.done (some (b.extract 0 (nb-1)++a.extract 0 na++(out.push x).reverse),na,nb-1,out.push x,mg,ac,bc))
 else do
  let y <-elem' a (na-1)
  let r <-cQ true y b 0 (nb-1) (nb-1-1)
  match r with
  |some k=>
   if nb-1-k > 0 then
    if (k == 1)=true then pure (.done (some (b.extract 0 k++a.extract 0 na++(out.push x++(b.extract k (nb-1)).reverse).reverse),na,k,out.push x++(b.extract k (nb-1)).reverse,mg,ac,nb-1-k))
    else if (k == 0)=true then pure (.done (some (a.extract 0 na++b.extract 0 k++(out.push x++(b.extract k (nb-1)).reverse).reverse),na,k,out.push x++(b.extract k (nb-1)).reverse,mg,ac,nb-1-k))
    else yG a b mg ac (nb-1-k) na k (out.push x++(b.extract k (nb-1)).reverse)
   else yG a b mg ac (nb-1-k) na (nb-1) (out.push x)
  |_=>pure (.done (some (a.extract 0 na++b.extract 0 (nb-1)++(out.push x).reverse),na,nb-1,out.push x,mg,ac,bc))
noncomputable def yI (a b:Array Keyed) (mg ac bc na nb:Nat) (out:Array Keyed):StateT SortSt Sem (ForInStep uL):=do
 q6 mg
 let x <-elem' b (nb-1)
 let r <-cQ false x a 0 na (na-1)
 match r with
 |some k=>
  if na-k > 0 then
   if (k == 0)=true then pure (.done (some (a.extract 0 k++b.extract 0 nb++(out++(a.extract k na).reverse).reverse),k,nb,out++(a.extract k na).reverse,mg,na-k,bc))
   else yH a b mg (na-k) bc k nb (out++(a.extract k na).reverse)
  else yH a b mg (na-k) bc na nb out
 |_=>pure (.done (some (a.extract 0 na++b.extract 0 nb++out.reverse),na,nb,out,mg,ac,bc))
noncomputable def AN (a b:Array Keyed) (_:Nat) (c:uL):StateT SortSt Sem (ForInStep uL):=
 if c.2.2.2.2.1 > 1 then yI a b (c.2.2.2.2.1-1) c.2.2.2.2.2.1 c.2.2.2.2.2.2 c.2.1 c.2.2.1 c.2.2.2.1 else yI a b c.2.2.2.2.1 c.2.2.2.2.2.1 c.2.2.2.2.2.2 c.2.1 c.2.2.1 c.2.2.2.1
noncomputable def zX (a b:Array Keyed) (mg _x:Nat) (c:Option (Array Keyed)×Nat×Nat×Array Keyed×Nat×Nat):StateT SortSt Sem (ForInStep (Option (Array Keyed)×Nat×Nat×Array Keyed×Nat×Nat)):=do
 let x <-elem' b (c.2.2.1-1)
 let y <-elem' a (c.2.1-1)
 let r <-lt' x y
 match r with
 |some w=>
  if w=true then do
   let x <-elem' a (c.2.1-1)
   if (c.2.1-1 == 0)=true then pure (.done (some (a.extract 0 (c.2.1-1)++b.extract 0 c.2.2.1++(c.2.2.2.1.push x).reverse),c.2.1-1,c.2.2.1,c.2.2.2.1.push x,c.2.2.2.2.1+1,0))
   else if c.2.2.2.2.1+1>=mg then pure (.done (none,c.2.1-1,c.2.2.1,c.2.2.2.1.push x,c.2.2.2.2.1+1,0)) else pure (.yield (none,c.2.1-1,c.2.2.1,c.2.2.2.1.push x,c.2.2.2.2.1+1,0))
  else do
   let x <-elem' b (c.2.2.1-1)
   if (c.2.2.1-1 == 1)=true then pure (.done (some (b.extract 0 (c.2.2.1-1)++a.extract 0 c.2.1++(c.2.2.2.1.push x).reverse),c.2.1,c.2.2.1-1,c.2.2.2.1.push x,0,c.2.2.2.2.2+1))
   else if c.2.2.2.2.2+1>=mg then pure (.done (none,c.2.1,c.2.2.1-1,c.2.2.2.1.push x,0,c.2.2.2.2.2+1)) else pure (.yield (none,c.2.1,c.2.2.1-1,c.2.2.2.1.push x,0,c.2.2.2.2.2+1))
 |_=>pure (.done (some (a.extract 0 c.2.1++b.extract 0 c.2.2.1++c.2.2.2.1.reverse),c.2.1,c.2.2.1,c.2.2.2.1,c.2.2.2.2.1,c.2.2.2.2.2))
noncomputable def zW (a b:Array Keyed) (_:Nat) (c:Option (Array Keyed)×Nat×Nat×Array Keyed×Nat):StateT SortSt Sem (ForInStep (Option (Array Keyed)×Nat×Nat×Array Keyed×Nat)):=do
 let d <-forIn [0:a.size+b.size] ((none,c.2.1,c.2.2.1,c.2.2.2.1,0,0):Option (Array Keyed)×Nat×Nat×Array Keyed×Nat×Nat) (zX a b c.2.2.2.2)
 Break.runK.match_1 (fun _=>StateT SortSt Sem _) d.1 (fun r=>pure (.done (some r,d.2.1,d.2.2.1,d.2.2.2.1,c.2.2.2.2))) fun _=>do
  liftM (rule "list.sort.gallop")
  let e <-forIn [0:a.size+b.size] ((none,d.2.1,d.2.2.1,d.2.2.2.1,c.2.2.2.2+1,d.2.2.2.2.1,d.2.2.2.2.2):uL) (AN a b)
  Break.runK.match_1 (fun _=>StateT SortSt Sem _) e.1 (fun r=>pure (.done (some r,e.2.1,e.2.2.1,e.2.2.2.1,e.2.2.2.2.1))) fun _=>do
   q6 (e.2.2.2.2.1+1)
   pure (.yield (none,e.2.1,e.2.2.1,e.2.2.2.1,e.2.2.2.2.1+1))
noncomputable def AO (a b:Array Keyed):StateT SortSt Sem (Array Keyed):=do
 liftM (rule "list.sort.merge-hi")
 let x <-elem' a (a.size-1)
 if (a.size-1 == 0)=true then pure (a.extract 0 (a.size-1)++b.extract 0 b.size++#[x].reverse)
 else if (b.size == 1)=true then pure (b.extract 0 b.size++a.extract 0 (a.size-1)++#[x].reverse)
 else do
  let st <-get
  let c <-forIn [0:a.size+b.size] ((none,a.size-1,b.size,#[x],gallopOf st):Option (Array Keyed)×Nat×Nat×Array Keyed×Nat) (zW a b)
  Break.runK.match_1 (fun _=>StateT SortSt Sem _) c.1 pure fun _=>liftM (unsupported "internal:list.sort.merge-bound":Sem (Array Keyed))
theorem wY (a b:Array Keyed):jE a b=AO a b:=rfl
theorem HiI.le {a b:Array Keyed} {n m:Nat} {γ:Type} {c:Option (Array Keyed)×Nat×Nat×Array Keyed×γ} (h:HiI a b n c) (hm:m<=n):HiI a b m c:=by
 cases h with
 |mk _ _ _ _ h1 h2 h3 h4 h5 h6=>exact⟨_,_,_,_,h1,h2,h3,h4,h5,Nat.le_trans hm h6⟩
section walk
variable {prog:Program} {w:World} {A:Around} {E:Value->Shared->Prop} {s:Shared} {kd:SortKind} {a₀:Array Keyed}
theorem wZ {st st':SortSt} {a b out:Array Keyed} {N mg ac bc i j:Nat} (hS:Same st st') (hM:MdH a b out i j) (h0:0 < i) (hi:i<=a.size) (g0:1 < j) (hj:j<=b.size) (hr:N<=out.size) :
  wpS (model prog w) A E s (yG a b mg ac bc i j out) (LoR (LoD a b) (HiI a b N) st) st':=by
 unfold yG
 have hia:=p1 h0 hi
 have h2:=hM.pushA h0 hia
 refine aB hia ?_
 refine az (fun e=>wpS_pure (.done _ _ hS ⟨_,_,h2.done⟩)) fun e=>?_
 have h3:HiI a b N (none,i-1,j,out.push a[i-1],mg,ac,bc):=⟨_,_,_,_,h2,n0 e,Nat.le_of_lt hia,g0,hj,Nat.le_of_succ_le (bU hr)⟩
 exact az (fun _=>wpS_pure (.stop _ _ hS h3)) fun _=>wpS_pure (.go _ _ hS h3)
theorem w0 {st st':SortSt} {a b out:Array Keyed} {N mg ac bc i j:Nat} (hL:gI prog w A E s kd a₀) (ha:∀x∈a.toList,x∈a₀.toList) (hb:∀x∈b.toList,x∈a₀.toList) (hkd:kindOf st=kd) (hS:Same st st') (hM:MdH a b out i j) (h0:0 < i) (hi:i<=a.size) (g0:1 < j) (hj:j<=b.size) (hr:N<=out.size) :
  wpS (model prog w) A E s (yH a b mg ac bc i j out) (LoR (LoD a b) (HiI a b N) st) st':=by
 unfold yH
 have hjb:=p1 (Nat.lt_of_succ_lt g0) hj
 have g1:=Nat.sub_pos_of_lt g0
 have h2:=hM.pushB (Nat.lt_of_succ_lt g0) hjb
 have hr1:N<=(out.push b[j-1]).size:=Nat.le_of_succ_le (bU hr)
 refine aB hjb ?_
 refine az (fun e=>wpS_pure (.done _ _ hS ⟨_,_,h2.last⟩)) fun e=>?_
 refine aB (p1 h0 hi) ?_
 refine wpS_bind (bL hL (ha _ (by simp)) hb (by rw[Nat.zero_add];exact Nat.le_of_lt hjb) (Nat.sub_lt g1 Nat.one_pos) (hS.kind.trans hkd) fun k l=>?_)
 refine az (fun _=>?_) fun _=>wZ hS h2 h0 hi (n1 e g1) (Nat.le_of_lt hjb) hr1
 have h3:=h2.appB l
 refine az (fun e=>wpS_pure (.done _ _ hS ⟨_,_,h3.last⟩)) fun e6=>?_
 refine az (fun e=>wpS_pure (.done _ _ hS ⟨_,_,h3.done⟩)) fun e9=>?_
 exact wZ hS h3 h0 hi (n1 e6 (n0 e9)) (Nat.le_trans l (Nat.le_of_lt hjb)) (iY hr1)
theorem zU {st st':SortSt} {a b:Array Keyed} {N x:Nat} {c:uL} (hL:gI prog w A E s kd a₀) (ha:∀x∈a.toList,x∈a₀.toList) (hb:∀x∈b.toList,x∈a₀.toList) (hkd:kindOf st=kd) (hS:Same st st') (hI:HiI a b N c) :
  wpS (model prog w) A E s (AN a b x c) (LoR (LoD a b) (HiI a b N) st) st':=by
 obtain ⟨i,j,out,⟨g,p,q⟩,hM,h0,hi,g0,hj,hr⟩:=hI
 have key:∀mg,wpS (model prog w) A E s (yI a b mg p q i j out) (LoR (LoD a b) (HiI a b N) st) st':=fun mg=>by
  unfold yI
  refine bI ?_
  have hS:=hS.trans (c:=SortSt.mk' (kindOf st') (arrOf st') (pendingOf st') mg (failedOf st')) ⟨rfl,rfl,rfl,rfl⟩
  refine aB (p1 (Nat.lt_of_succ_lt g0) hj) ?_
  refine wpS_bind (bL hL (hb _ (by simp)) ha (by rw[Nat.zero_add];exact hi) (Nat.sub_lt h0 Nat.one_pos) (hS.kind.trans hkd) fun k l=>?_)
  refine az (fun _=>?_) fun _=>w0 hL ha hb hkd hS hM h0 hi g0 hj hr
  have h3:=hM.appA l
  refine az (fun e=>wpS_pure (.done _ _ hS ⟨_,_,h3.done⟩)) fun e3=>?_
  exact w0 hL ha hb hkd hS h3 (n0 e3) (Nat.le_trans l hi) g0 hj (iY hr)
 exact az (fun _=>key _) fun _=>key _
theorem zV {st st':SortSt} {a b:Array Keyed} {N mg x:Nat} {c:Option (Array Keyed)×Nat×Nat×Array Keyed×Nat×Nat} (hL:gI prog w A E s kd a₀) (ha:∀x∈a.toList,x∈a₀.toList) (hb:∀x∈b.toList,x∈a₀.toList) (hkd:kindOf st=kd) (hS:Same st st') (hI:HiI a b N c) :
  wpS (model prog w) A E s (zX a b mg x c) (LoR (LoD a b) (HiI a b (N+1)) st) st':=by
 obtain ⟨i,j,out,⟨p,q⟩,hM,h0,hi,g0,hj,hr⟩:=hI
 have hia:=p1 h0 hi
 have hjb:=p1 (Nat.lt_of_succ_lt g0) hj
 unfold zX
 refine lT hL hb ha hjb hia (hS.kind.trans hkd) fun aw=>?_
 cases aw with
 |true=>
  have h2:=hM.pushA h0 hia
  refine aB hia ?_
  refine az (fun e=>wpS_pure (.done _ _ hS ⟨_,_,h2.done⟩)) fun e=>?_
  have h3:HiI a b (N+1) (none,i-1,j,out.push a[i-1],p+1,0):=⟨_,_,_,_,h2,n0 e,Nat.le_of_lt hia,g0,hj,bU hr⟩
  exact az (fun _=>wpS_pure (.stop _ _ hS h3)) fun _=>wpS_pure (.go _ _ hS h3)
 |false=>
  have h2:=hM.pushB (Nat.lt_of_succ_lt g0) hjb
  refine aB hjb ?_
  refine az (fun e=>wpS_pure (.done _ _ hS ⟨_,_,h2.last⟩)) fun e=>?_
  have h3:HiI a b (N+1) (none,i,j-1,out.push b[j-1],0,q+1):=⟨_,_,_,_,h2,h0,hi,n1 e (Nat.sub_pos_of_lt g0),Nat.le_of_lt hjb,bU hr⟩
  exact az (fun _=>wpS_pure (.stop _ _ hS h3)) fun _=>wpS_pure (.go _ _ hS h3)
theorem zT {st st':SortSt} {a b:Array Keyed} {N x:Nat} {c:Option (Array Keyed)×Nat×Nat×Array Keyed×Nat} (hL:gI prog w A E s kd a₀) (ha:∀x∈a.toList,x∈a₀.toList) (hb:∀x∈b.toList,x∈a₀.toList) (na:0 < a.size) (hkd:kindOf st=kd) (hS:Same st st') (hI:HiI a b N c) :
  wpS (model prog w) A E s (zW a b x c) (LoQ (LoD a b) (HiI a b (N+1)) st) st':=by
 obtain ⟨i,j,out,mg,hM,h0,hi,g0,hj,hr⟩:=hI
 unfold zW
 have tot:=Nat.add_pos_left na b.size
 refine dF (LoD a b) (HiI a b (N+1)) (fun y=>HiI a b (N+y)) (fun y c st'' hS hI=>zV hL ha hb hkd hS hI) (fun y c h=>h.le (Nat.succ_le_succ (Nat.le_add_right N y))) tot hS ⟨i,j,_,_,hM,h0,hi,g0,hj,hr⟩ fun c st'' hP=>?_
 rcases hP with ⟨hS2,⟨m,r,hG⟩⟩ | ⟨hS2,⟨i',j',out',⟨p,q⟩,hM',h0',hi',g0',hj',hr'⟩⟩
 ·exact wpS_pure (.done _ _ hS2 ⟨m,_,hG⟩)
 refine b0 ?_
 refine dF (LoD a b) (HiI a b (N+1)) (fun _=>HiI a b (N+1)) (fun y c st'' hS hI=>zU hL ha hb hkd hS hI) (fun y c h=>h) tot hS2 ⟨i',j',_,_,hM',h0',hi',g0',hj',hr'⟩ fun c st3 hP=>?_
 rcases hP with ⟨hS3,⟨m,r,hG⟩⟩ | ⟨hS3,⟨i',j',out',⟨g,p,q⟩,hM',h0',hi',g0',hj',hr'⟩⟩
 ·exact wpS_pure (.done _ _ hS3 ⟨m,_,hG⟩)
 refine bI ?_
 exact wpS_pure (.go _ _ (hS3.trans ⟨rfl,rfl,rfl,rfl⟩) ⟨_,_,_,_,hM',h0',hi',g0',hj',hr'⟩)
theorem vP {st:SortSt} {a b:Array Keyed} {Q:Array Keyed->SortSt->Prop} (hL:gI prog w A E s kd a₀) (ha:∀x∈a.toList,x∈a₀.toList) (hb:∀x∈b.toList,x∈a₀.toList) (na:0 < a.size) (nb:0 < b.size) (hkd:kindOf st=kd)
  (h:∀m st',m.toList.Perm (a.toList++b.toList)->Same st st'->Q m st'):wpS (model prog w) A E s (jE a b) Q st:=by
 have hla:a.size-1 < a.size:=Nat.sub_lt na Nat.one_pos
 have m0:MdH a b #[a[a.size-1]] (a.size-1) b.size:=by
  have:MdH a b #[] a.size b.size:=by
   unfold MdH
   rw[List.take_of_length_le (by simp),List.take_of_length_le (by simp)]
   exact List.Perm.refl _
  exact this.pushA na hla
 rw[wY]
 unfold AO
 refine b0 ?_
 refine aB hla ?_
 refine az (fun e1=>wpS_pure (h _ _ m0.done Same.refl)) fun e1=>?_
 refine az (fun e2=>wpS_pure (h _ _ m0.last Same.refl)) fun e2=>?_
 refine bi ?_
 refine bj (fun x c st'=>Same st st'/\HiI a b (x+1) c) (fun c st'=>Same st st'/\LoD a b c) ?_ ?_ ⟨Same.refl,_,_,_,_,m0,n0 e1,Nat.sub_le _ _,n1 e2 nb,Nat.le_refl _,Nat.le_refl _⟩ ?_
 ·rintro F rfl x c st' _ _ ⟨hS,hI⟩
  refine wpS_mono (zT hL ha hb na hkd hS hI) fun r st3 hR=>?_
  cases hR with
  |done _ c hS h=>exact⟨hS,h⟩
  |go _ c hS h=>exact⟨hS,h⟩
 ·rintro c st' ⟨hS,i,j,out,mg,hM,h0,hi,g0,hj,hx⟩
  exact absurd (Nat.le_trans hx hM.size) (Nat.not_le.mpr (Nat.lt_succ_of_le (Nat.le_max_right _ _)))
 ·rintro K rfl c st' ⟨hS,m,r,hG⟩
  exact wpS_pure (h m st' hG hS)
end walk
theorem jR (o:Nat):∀(l:List Keyed) (d:Nat) (arr:Array Keyed),o+d+l.length<=arr.size->
  ((l.zipIdx d).foldl (fun a (pj:Keyed×Nat)=>a.setIfInBounds (o+pj.2) pj.1) arr).toList=arr.toList.take (o+d)++(l++arr.toList.drop (o+d+l.length))
 |[],d,arr,h=>by simp
 |x::l,d,arr,h=>by
  rw[List.zipIdx_cons,List.foldl_cons]
  simp only[List.length_cons] at h
  rw[jR o l (d+1) _ (by rw[Array.size_setIfInBounds];exact gY fun hg=>lN [o,d,(l.length),(arr.size)] 0x628c8001c613986520001 rfl h hg)]
  rw[Array.toList_setIfInBounds]
  have hl:arr.toList.length=arr.size:=Array.length_toList
  rw[List.take_set,List.drop_set_of_lt (by exact Nat.le_add_right _ _),show o+(d+1)=o+d+1 by exact rfl]
  rw[List.take_add_one,List.getElem?_eq_getElem (by exact Nat.lt_of_le_of_lt (Nat.le_add_right _ _) h),List.set_append]
  simp only[Option.toList_some,List.length_take,List.length_cons]
  rw[if_neg (by exact fun hg=>lN [o,d,(min (o+d) arr.toList.length)] 0x18a400c25200c1 rfl (Nat.min_le_left (o+d) (arr.toList.length)) hg),show o+d-min (o+d) arr.toList.length=0 by exact Nat.le_antisymm (gY fun hg=>Or.elim (kG (o+d) (min (o+d) arr.toList.length)) (fun hs0=>Or.elim (t7 (o+d) (arr.toList.length)) (fun hs1=>lN [o,d,(o+d-min (o+d) arr.toList.length),(min (o+d) arr.toList.length)] 0x729001300230948039801 rfl (fD (gY fun hg=>lN [o,d,(min (o+d) arr.toList.length)] 0x18a400c25200c1 rfl (Nat.min_le_left (o+d) (arr.toList.length)) hg)) hg hs1) (fun hs1=>lN [o,d,(l.length),(arr.size),(o+d-min (o+d) arr.toList.length),(min (o+d) arr.toList.length)] 0x24e140023094804a0013986520001 rfl h (fD (gY fun hg=>lN [o,d,(min (o+d) arr.toList.length)] 0x18a400c25200c1 rfl (Nat.min_le_left (o+d) (arr.toList.length)) hg)) hg hs1)) (fun hs0=>lN [(o+d-min (o+d) arr.toList.length)] 0x902400461 rfl hg (Nat.le_of_eq hs0))) (gY fun hg=>lN [o,d,(o+d-min (o+d) arr.toList.length),(min (o+d) arr.toList.length)] 0x98613980520025200e1 rfl (Nat.min_le_left (o+d) (arr.toList.length)) (kH (o+d) (min (o+d) arr.toList.length)) hg)]
  simp only[List.set_cons_zero,List.append_assoc,List.cons_append,List.nil_append]
  rw[show o+d+1+l.length=o+d+(l.length+1) by exact Nat.add_right_comm _ _ _]
theorem nZ {arr:Array Keyed} {i j k:Nat} (hij:i<=j) (hjk:j<=k):arr.toList=arr.toList.take i++((arr.extract i j).toList++(arr.extract j k).toList++arr.toList.drop k):=by
 have h1:=dG (arr:=arr) hij
 have h2:=dG (arr:=arr) hjk
 rw[List.append_assoc,<-List.append_assoc,<-h1,<-List.append_assoc,<-h2,List.take_append_drop]
theorem fk {arr:Array Keyed} {i j:Nat} (hj:j<=arr.size):(arr.extract i j).toList.length=j-i:=by
 rw[Array.length_toList,Array.size_extract,Nat.min_eq_left hj]
theorem ph {arr:Array Keyed} {i j k:Nat} {m:List Keyed} (hij:i<=j) (hjk:j<=k) (hk:k<=arr.size) (hm:m.Perm ((arr.extract i j).toList++(arr.extract j k).toList)) :
  (m.zipIdx.foldl (fun a (pj:Keyed×Nat)=>a.setIfInBounds (i+pj.2) pj.1) arr).Perm arr:=by
 have hl:i+0+m.length=k:=by
  rw[hm.length_eq,List.length_append,fk (Nat.le_trans hjk hk),fk hk,Nat.add_zero,<-Nat.add_assoc,Nat.add_sub_cancel' hij,Nat.add_sub_cancel' hjk]
 refine Array.perm_iff_toList_perm.mpr ?_
 rw[jR i m 0 arr (by rw[hl];exact hk),hl]
 have:=nZ (arr:=arr) hij hjk
 exact (List.Perm.append_left _ (List.Perm.append_right _ hm)).trans (List.Perm.of_eq this.symm)
noncomputable def Runs:List (Nat×Nat×Nat)->Nat->Nat->Prop
 |[],a,b=>a=b
 |r::rs,a,b=>r.1=a/\0 < r.2.1/\Runs rs (a+r.2.1) b
theorem b8:∀{p q:List (Nat×Nat×Nat)} {a b:Nat},Runs (p++q) a b↔∃c,Runs p a c/\Runs q c b
 |[],q,a,b=>⟨fun h=>⟨a,rfl,h⟩,fun ⟨c,e,h⟩=>by cases (e:a=c);exact h⟩
 |r::p,q,a,b=>by
  show (r.1=a/\0 < r.2.1/\Runs (p++q) (a+r.2.1) b)↔_
  rw[b8]
  exact⟨fun ⟨h1,h2,c,h4,h5⟩=>⟨c,⟨h1,h2,h4⟩,h5⟩,fun ⟨c,⟨h1,h2,h4⟩,h5⟩=>⟨h1,h2,c,h4,h5⟩⟩
theorem iz:∀{p:List (Nat×Nat×Nat)} {a b:Nat},Runs p a b->a+p.length<=b
 |[],a,b,h=>by cases (h:a=b);exact Nat.le_refl _
 |r::p,a,b,⟨_,h2,h4⟩=>by
  rw[List.length_cons,Nat.add_comm p.length 1,<-Nat.add_assoc]
  exact Nat.le_trans (Nat.add_le_add_right (Nat.add_le_add_left h2 a) _) (iz h4)
theorem eX {α:Type} {f:α->α} {t:α}:∀(p:List α),(p++[t]).modify p.length f=p++[f t]
 |[]=>rfl
 |x::p=>by
  show x::(p++[t]).modify p.length f=x::(p++[f t])
  rw[eX p]
theorem pf {p:List (Nat×Nat×Nat)} {a b:Nat} {s n u v:Nat} (h:Runs (p++[(s,n,u)]) a b):Runs (p++[(s,n,v)]) a b:=by
 rw[b8] at h ⊢
 exact h
section walk
variable {prog:Program} {w:World} {A:Around} {E:Value->Shared->Prop} {s:Shared} {kd:SortKind} {a₀:Array Keyed} {p:Array (Nat×Nat×Nat)}
theorem s9 {st st':SortSt} {Q:PUnit->SortSt->Prop} (h:Q ⟨⟩ st'):wpS (model prog w) A E s (set st':StateT SortSt Sem PUnit) Q st:=by
 unfold wpS;rw[StateT.run_set];exact wpAny_pure ⟨rfl,h⟩
theorem kB {st:SortSt} {i:Nat} {p1 p2:List (Nat×Nat×Nat)} {sa na pw sb nb pw2:Nat} {Q:Bool->SortSt->Prop} (hL:gI prog w A E s kd a₀) (hB:SP kd a₀ p st)
  (hp:p.toList=p1++(sa,na,pw)::(sb,nb,pw2)::p2) (hi:i=p1.length) (hsb:sb=sa+na) (hna:0 < na) (hnb:0 < nb) (hsz:sb+nb<=a₀.size)
  (h:∀st' p',SP kd a₀ p' st'->p'.toList=p1++(sa,na+nb,pw)::p2->Q true st') :
  wpS (model prog w) A E s (mergeAt' i) Q st:=by
 have hsize:=hB.size
 have hmem:=hB.mem
 have hpe:=hB.pend
 subst hpe
 have q1:(pendingOf st)[i]?=some (sa,na,pw):=by
  rw[<-Array.getElem?_toList,hp,hi,List.getElem?_append_right (Nat.le_refl _)];simp
 have q2:(pendingOf st)[i+1]?=some (sb,nb,pw2):=by
  rw[<-Array.getElem?_toList,hp,hi,List.getElem?_append_right (by exact Nat.le_add_right _ _)];simp
 have hpend:(((pendingOf st).setIfInBounds i (sa,na+nb,pw)).eraseIdxIfInBounds (i+1)).toList=p1++(sa,na+nb,pw)::p2:=by
  rw[Array.toList_eraseIdxIfInBounds,Array.toList_setIfInBounds,hp,hi,List.set_append_right _ _ (Nat.le_refl _),List.eraseIdx_append_of_length_le (by exact Nat.le_add_right _ _)]
  simp
 unfold mergeAt'
 refine bi ?_
 dsimp only
 rw[q1,q2]
 dsimp only
 refine wpS_bind (s9 ?_)
 rw[<-hsize] at hsz
 have hsbs:sb < (arrOf st).size:=Nat.lt_of_lt_of_le (Nat.lt_add_of_pos_right hnb) hsz
 have bn1:sa+na<=(arrOf st).size:=by rw[<-hsb];exact Nat.le_of_lt hsbs
 refine aB hsbs ?_
 refine wpS_bind (bL (left:=false) (n:=na) (hint:=0) hL (hmem _ (by simp)) hmem bn1 hna hB.kind fun k hk1=>?_)
 dsimp only
 refine az (fun _=>wpS_pure (h _ _ ⟨hB.perm,hB.kind,hB.failed,rfl⟩ hpend)) fun e1=>?_
 have hkl:k < na:=Nat.lt_of_sub_pos (n0 e1)
 have hlast:sa+k+(na-k)-1 < (arrOf st).size:=by
  rw[Nat.add_assoc,Nat.add_sub_cancel' hk1]
  exact Nat.lt_of_lt_of_le (Nat.sub_lt (Nat.add_pos_right sa hna) Nat.one_pos) bn1
 refine aB hlast ?_
 refine wpS_bind (bL (left:=true) (n:=nb) (hint:=nb-1) hL (hmem _ (by simp)) hmem hsz (Nat.sub_lt hnb Nat.one_pos) hB.kind fun k2 l1=>?_)
 dsimp only
 refine az (fun _=>wpS_pure (h _ _ ⟨hB.perm,hB.kind,hB.failed,rfl⟩ hpend)) fun e2=>?_
 have hij:sa+k < sb:=by rw[hsb];exact Nat.add_lt_add_left hkl sa
 have hjk:sb<=sb+k2:=Nat.le_add_right _ _
 have hks:sb+k2<=(arrOf st).size:=Nat.le_trans (Nat.add_le_add_left l1 sb) hsz
 have hsub:∀{i j:Nat},∀x∈((arrOf st).extract i j).toList,x∈a₀.toList:=fun x hx=>hmem x (by
  rw[Array.toList_extract,List.extract_eq_take_drop] at hx
  exact List.drop_subset _ _ (List.take_subset _ _ hx))
 have bx:0 < ((arrOf st).extract (sa+k) sb).size:=by
  rw[<-Array.length_toList,fk (Nat.le_of_lt hsbs)];exact Nat.sub_pos_of_lt hij
 have by':0 < ((arrOf st).extract sb (sb+k2)).size:=by
  rw[<-Array.length_toList,fk hks,Nat.add_sub_cancel_left];exact n0 e2
 have fin:∀(m:Array Keyed) (st':SortSt),m.toList.Perm (((arrOf st).extract (sa+k) sb).toList++((arrOf st).extract sb (sb+k2)).toList)->
   Same (SortSt.mk' (kindOf st) (arrOf st) (((pendingOf st).setIfInBounds i (sa,na+nb,pw)).eraseIdxIfInBounds (i+1)) (gallopOf st) (failedOf st)) st'->
   Q (failedOf st').isNone (setArr st' (m.toList.zipIdx.foldl (fun a (pj:Keyed×Nat)=>a.setIfInBounds (sa+k+pj.2) pj.1) (arrOf st'))):=by
  intro m st' hG hS
  have hf:failedOf st'=none:=hS.failed.trans hB.failed
  rw[hf]
  refine h _ _ ⟨?_,hS.kind.trans hB.kind,hf,hS.pend⟩ hpend
  show (List.foldl _ (arrOf st') _).Perm a₀
  rw[show arrOf st'=arrOf st from hS.arr]
  exact (ph (Nat.le_of_lt hij) hjk hks hG).trans hB.perm
 refine az (fun e3=>?_) (fun e3=>?_)
 ·exact wpS_bind (vO hL hsub hsub bx by' hB.kind fun m st' hG hS=>bI (bi (wpS_pure (fin m st' hG hS))))
 ·exact wpS_bind (vP hL hsub hsub bx by' hB.kind fun m st' hG hS=>bI (bi (wpS_pure (fin m st' hG hS))))
theorem eQ {st:SortSt} {i lo:Nat} {Q:Bool->SortSt->Prop} (hL:gI prog w A E s kd a₀) (hB:SP kd a₀ p st) (hR:Runs p.toList 0 lo) (hlo:lo<=a₀.size) (hi:i+1 < p.size)
  (h:∀st' p',SP kd a₀ p' st'->Runs p'.toList 0 lo->p'.size+1=p.size->Q true st') :
  wpS (model prog w) A E s (mergeAt' i) Q st:=by
 have hl:p.toList.length=p.size:=Array.length_toList
 obtain ⟨p1,x,y,p2,e,e1⟩:∃p1 x y p2,p.toList=p1++x::y::p2/\i=p1.length:=by
  have hi':=Nat.lt_of_lt_of_eq hi hl.symm
  refine⟨p.toList.take i,p.toList[i]'(Nat.lt_of_succ_lt hi'),p.toList[i+1]'hi',p.toList.drop (i+2),?_,?_⟩
  ·rw[List.getElem_cons_drop,List.getElem_cons_drop,List.take_append_drop]
  ·rw[List.length_take,hl,Nat.min_eq_left (Nat.le_of_lt (Nat.lt_of_succ_lt hi))]
 obtain ⟨sa,na,pw⟩:=x
 obtain ⟨sb,nb,pw2⟩:=y
 rw[e] at hR
 refine x1_6 (b8.mp hR) fun c R1 a1 a2 b1 b2 R2=>?_
 dsimp only at a1 a2 b1 b2 R2
 have hd:=iz R2
 subst a1
 subst b1
 refine kB hL hB e e1 rfl a2 b2 (Nat.le_trans (Nat.le_trans (Nat.le_add_right _ _) hd) hlo) fun st' p' hB' hp'=>h st' p' hB' ?_ ?_
 ·rw[hp',b8]
  refine⟨sa,R1,rfl,Nat.lt_of_lt_of_le a2 (Nat.le_add_right _ _),?_⟩
  show Runs p2 (sa+(na+nb)) lo
  rw[<-Nat.add_assoc]
  exact R2
 ·rw[<-Array.length_toList,<-hl,hp',e,List.length_append,List.length_append]
  rfl
theorem td {α β:Type} {st:SortSt} {c:Prop} [Decidable c] {t e:StateT SortSt Sem α} {Q:α->SortSt->Prop} {G:β->StateT SortSt Sem α} (H:β->SortSt->Prop) (x:β) (he:e=G x)
  (key:∀x' st',H x' st'->wpS (model prog w) A E s (G x') Q st') (h1:c->(∀x' st',H x' st'->wpS (model prog w) A E s (G x') Q st')->wpS (model prog w) A E s t Q st) (h2:¬c->H x st) :
  wpS (model prog w) A E s (if c then t else e) Q st:=az (fun h=>h1 h key) (fun h=>he▸key x st (h2 h))
inductive RunI (kd:SortKind) (a₀:Array Keyed) (lo:Nat) (st:SortSt):Prop
 |mk (p:Array (Nat×Nat×Nat)) (b:SP kd a₀ p st) (r:Runs p.toList 0 lo):RunI kd a₀ lo st
inductive RunJ (kd:SortKind) (a₀:Array Keyed) (x:Nat):Option Unit×Nat->SortSt->Prop
 |mk (lo:Nat) (st:SortSt) (i:RunI kd a₀ lo st) (h:lo<=a₀.size) (h':x<=lo):RunJ kd a₀ x (none,lo) st
structure RunAt (kd:SortKind) (a₀:Array Keyed) (lo n:Nat) (st:SortSt):Prop where
 b:RunI kd a₀ lo st
 n1:1<=n
 n2:lo+n<=a₀.size
inductive Wait (kd:SortKind) (a₀:Array Keyed) (lo:Nat) (st:SortSt):Prop
 |mk (p:Array (Nat×Nat×Nat)) (b:SP kd a₀ p st) (r:Runs p.toList 0 lo) (z:0 < p.size):Wait kd a₀ lo st
inductive Few (kd:SortKind) (a₀:Array Keyed) (x:Nat) (st:SortSt):Prop
 |mk (p:Array (Nat×Nat×Nat)) (b:SP kd a₀ p st) (r:Runs p.toList 0 a₀.size) (h:p.size+x<=a₀.size):Few kd a₀ x st
theorem qW {st:SortSt} {Q:Unit->SortSt->Prop} (hL:gI prog w A E s kd a₀) (hB:SP kd a₀ #[] st)
  (h:∀st',(arrOf st').Perm a₀->failedOf st'=none->Q () st'):wpS (model prog w) A E s sortRuns' Q st:=by
 rw[sortRuns'_eq]
 refine bi ?_
 rw[hB.size]
 generalize minRun' a₀.size a₀.size 0=mr
 refine bj (fun x c st'=>RunJ kd a₀ x c st') (fun c st'=>c=(none,a₀.size)/\RunI kd a₀ a₀.size st') ?step ?fin ⟨0,st,⟨_,hB,rfl⟩,Nat.zero_le _,Nat.le_refl _⟩ ?post
 case fin=>
  rintro c st' ⟨lo,_,hI,h1,h2⟩
  rw[Nat.max_eq_right (Nat.zero_le _)] at h2
  cases Nat.le_antisymm h1 h2
  exact⟨rfl,hI⟩
 case step=>
  rintro F rfl x c st' _ _ ⟨lo,_,⟨p,hB',hR⟩,h1,hx⟩
  refine az (fun e1=>?_) (fun e1=>?_)
  ·cases Nat.le_antisymm h1 e1
   exact wpS_pure ⟨rfl,_,hB',hR⟩
  refine oK fun K hK=>oJ hL (Nat.le_of_eq (Nat.add_sub_cancel' h1)) (Nat.sub_pos_of_lt (Nat.lt_of_not_le e1)) hB' fun m st2 hB2 hm1 hm2=>?_
  subst hK
  dsimp only
  refine' td (RunAt kd a₀ lo) m ?he ?_ (fun e2 K=>?_) (fun _=>⟨⟨_,hB2,hR⟩,hm1,Nat.le_trans (Nat.add_le_add_left hm2 lo) (Nat.le_of_eq (Nat.add_sub_cancel' h1))⟩)
  case he=>apply Eq.refl
  ·clear hB2 hm1 hm2 hR
   rintro n st3 ⟨⟨p3,hB3,hR3⟩,hn1,hn2⟩
   refine bi ?_
   have hpe:=hB3.pend
   subst hpe
   cases hb:(pendingOf st3).back? with
   |none=>
    refine bI (wpS_pure ⟨_,_,⟨_,⟨hB3.perm,hB3.kind,hB3.failed,rfl⟩,?_⟩,hn2,Nat.add_le_add hx hn1⟩)
    show Runs ((pendingOf st3).push _).toList 0 _
    rw[Array.toList_push,b8]
    exact⟨lo,hR3,rfl,hn1,rfl⟩
   |some t=>
    obtain ⟨s1,n1,o1⟩:=t
    refine bj (fun y c st4=>c=(none,())/\Wait kd a₀ lo st4) (fun c st4=>c=(none,())/\Wait kd a₀ lo st4) ?_ (fun _ _ hh=>hh) ⟨rfl,_,hB3,hR3,?_⟩ ?_
    ·rintro F rfl y c st4 _ _ ⟨rfl,p4,hB4,hR4,hz4⟩
     refine bi ?_
     have hpe:=hB4.pend
     subst hpe
     by_cases hz:(pendingOf st4).size > 1
     ·rw[if_pos hz,getElem?_pos (pendingOf st4) ((pendingOf st4).size-2) (Nat.sub_lt hz4 (by decide))]
      refine az (fun e5=>wpS_pure ⟨rfl,_,hB4,hR4,hz4⟩) (fun e5=>?_)
      refine wpS_bind (eQ hL hB4 hR4 h1 (Nat.lt_of_lt_of_eq (Nat.lt_succ_self _) (Nat.sub_add_cancel hz)) fun st5 p5 hB5 hR5 hz5=>?_)
      exact wpS_pure ⟨rfl,_,hB5,hR5,Nat.lt_of_succ_lt_succ (Nat.lt_of_lt_of_eq hz hz5.symm)⟩
     ·rw[if_neg hz]
      exact wpS_pure ⟨rfl,_,hB4,hR4,hz4⟩
    ·rcases Nat.eq_zero_or_pos (pendingOf st3).size with h0 | h0
     ·rw[Array.eq_empty_of_size_eq_zero h0] at hb;simp at hb
     ·exact h0
    ·rintro K rfl c st4 ⟨rfl,p4,hB4,hR4,hz4⟩
     have hpe:=hB4.pend
     subst hpe
     refine bI ?_
     refine bI (wpS_pure ⟨_,_,⟨_,⟨hB4.perm,hB4.kind,hB4.failed,rfl⟩,?_⟩,hn2,Nat.add_le_add hx hn1⟩)
     show Runs (Array.push (Array.modify (pendingOf st4) ((pendingOf st4).size-1) _) _).toList 0 _
     rw[Array.toList_push,b8]
     refine⟨lo,?_,rfl,hn1,rfl⟩
     have hl:(pendingOf st4).toList.length=(pendingOf st4).size:=Array.length_toList
     obtain ⟨p,t,et⟩:∃p t,(pendingOf st4).toList=p++[t]:=by
      have hne':(pendingOf st4).toList≠[]:=fun h0=>by rw[h0] at hl;exact absurd hz4 (by rw[<-hl];exact Nat.lt_irrefl _)
      exact⟨_,_,(List.dropLast_concat_getLast hne').symm⟩
     rw[Array.toList_modify,<-hl,et,List.length_append,List.length_singleton,Nat.add_sub_cancel]
     obtain ⟨u,v,z⟩:=t
     rw[et] at hR4
     rw[eX]
     exact pf hR4
  ·refine b0 ?_
   refine wpS_bind (te hL (Nat.le_trans (Nat.add_le_add_left (Nat.min_le_left _ _) lo) (Nat.le_of_eq (Nat.add_sub_cancel' h1))) hB2 fun st3 hB3=>?_)
   refine K _ st3 ⟨⟨_,hB3,hR⟩,?_,Nat.le_trans (Nat.add_le_add_left (Nat.min_le_left _ _) lo) (Nat.le_of_eq (Nat.add_sub_cancel' h1))⟩
   exact Nat.le_min.mpr ⟨Nat.le_trans hm1 hm2,Nat.le_of_lt (Nat.lt_of_le_of_lt hm1 e2)⟩
 case post=>
  rintro K rfl c st' ⟨rfl,p,hB',hR⟩
  refine bj (fun x c st''=>c=(none,())/\Few kd a₀ x st'') (fun c st''=>c=(none,())/\(arrOf st'').Perm a₀/\failedOf st''=none) ?cstep ?cfin ?cinit ?cpost
  case cinit=>
   have:=iz hR
   rw[Array.length_toList] at this
   exact⟨rfl,_,hB',hR,Nat.le_trans (Nat.le_add_left _ _) this⟩
  case cfin=>
   rintro c st'' ⟨rfl,_,hB4,_,_⟩
   exact⟨rfl,hB4.perm,hB4.failed⟩
  case cpost=>
   rintro K rfl c st'' ⟨rfl,h1,h2⟩
   exact wpS_pure (h _ h1 h2)
  case cstep=>
   rintro F rfl x c st'' _ _ ⟨rfl,p4,hB4,hR4,hx4⟩
   refine bi ?_
   have hpe:=hB4.pend
   subst hpe
   refine az (fun e1=>wpS_pure ⟨rfl,hB4.perm,hB4.failed⟩) (fun e1=>?_)
   refine wpS_bind (eQ hL hB4 hR4 (Nat.le_refl _) ?_ fun st5 p5 hB5 hR5 hz5=>?_)
   ·have hif:∀(c:Prop) [Decidable c] (n:Nat),1 < n->(if c then n-2-1 else n-2)+1 < n:=by
     intro c _ n hn
     have:=Nat.lt_of_lt_of_eq (Nat.lt_succ_self _) (Nat.sub_add_cancel hn)
     split
     ·exact Nat.lt_of_le_of_lt (Nat.succ_le_succ (Nat.sub_le _ _)) this
     ·exact this
    exact hif _ _ (Nat.lt_of_not_le e1)
   ·exact wpS_pure ⟨rfl,_,hB5,hR5,Nat.le_trans (Nat.le_of_eq ((Nat.add_right_comm p5.size _ 1).trans (congrArg (·+_) hz5))) hx4⟩
end walk
section
variable {prog:Program} {w:World} {A:Around} {E:Value->Shared->Prop} {s:Shared} {kd:SortKind}
theorem t9 {vs:List Value} (h:∀x∈vs,∀y∈vs,∀(E:Value->Shared->Prop) (C:Bool->Shared->Prop),(∀b,C b s)->wpAny (model prog w) A (keyLt' kd x y) C E s):gI prog w A E s kd (pairsOf vs):=by
 intro x y hx hy Q st hk q
 rw[pairsOf_toList] at hx hy
 rw[lt'_eq]
 refine bi ?_
 rw[hk]
 exact wpS_bind (wpS_lift (wpAny_attempt (h _ (mem_zip_self hx).2 _ (mem_zip_self hy).2 _ _ fun b=>⟨rfl,wpS_pure (q b)⟩)))
theorem fH {a:Addr} {vs:List Value} {n:Nat} {P:PySem.Fin->Shared->Prop} (ho:s.heap.get? a=some (seqObj "list" vs.toArray n)) (hz:vs.length<=16777216)
  (hkk:2<=vs.length->∀s':Shared,(∀b o,b≠a->s.heap.get? b=some o->s'.heap.get? b=some o)->∀Q:SortKind->Shared->Prop,Q kd s'->wpAny (model prog w) A (keyKind' vs.toArray) Q E s')
  (hL:∀s':Shared,(∀b o,b≠a->s.heap.get? b=some o->s'.heap.get? b=some o)->∀x∈vs,∀y∈vs,∀(E:Value->Shared->Prop) (C:Bool->Shared->Prop),(∀b,C b s')->wpAny (model prog w) A (keyLt' kd x y) C E s')
  (h:∀out:List Value,out.Perm vs->P (.done (.ret .none)) {s with heap:=sortedHeap s.heap a vs out.toArray}) :
  wpAny (model prog w) A (Builtin.«list.sort» ⟨[.ref a],[]⟩) P E s:=by
 rw[list_sort_plain]
 have ha:a < s.heap.objs.size:=Heap.lt_size ho
 refine wpAny_bind (listItems_at ho rfl ?_)
 refine wpAny_bind (listUpdate_at ho rfl ?_ (hsz:=by rw[List.size_toArray];exact hz) (hsz2:=by simp))
 obtain ⟨e1,ho1⟩:∃e1,(s.heap.update a (Obj.mapSeq fun _=>#[])).get? a=some (seqObj "list" #[] e1):=⟨_,get?_update_seq ho (fun _=>#[])⟩
 refine wpAny_bind (seqEpoch_at ho1 rfl ?_)
 refine wpAny_bind (wpAny_newTuple ?_ (by rw[List.toList_toArray];exact hz))
 refine wpAny_bind (wpAny_newList ?_)
 refine wpAny_holding ?_
 have ho6:(((s.heap.update a (Obj.mapSeq fun _=>#[])).push (seqObj "tuple" vs.toArray 0)).push (seqObj "list" #[] 0)).get? a=some (seqObj "list" #[] e1):=by
  rw[Heap.get?_push_ne _ _ _ (by rw[size_push',Heap.size_update];exact Nat.ne_of_lt (Nat.lt_succ_of_lt ha)),Heap.get?_push_ne _ _ _ (by rw[Heap.size_update];exact Nat.ne_of_lt ha)]
  exact ho1
 have hkeep:∀b o,b≠a->s.heap.get? b=some o->(((s.heap.update a (Obj.mapSeq fun _=>#[])).push (seqObj "tuple" vs.toArray 0)).push (seqObj "list" #[] 0)).get? b=some o:=by
  intro b o hb e
  have hlt:=Heap.lt_size e
  rw[Heap.get?_push_ne _ _ _ (by rw[size_push',Heap.size_update];exact Nat.ne_of_lt (Nat.lt_succ_of_lt hlt)),Heap.get?_push_ne _ _ _ (by rw[Heap.size_update];exact Nat.ne_of_lt hlt),Heap.get?_update_ne _ _ _ _ hb]
  exact e
 show wpAny (model prog w) A _ P E {s with heap:=((s.heap.update a (Obj.mapSeq fun _=>#[])).push (seqObj "tuple" vs.toArray 0)).push (seqObj "list" #[] 0)}
 dsimp only
 have fin:∀st':SortSt,(arrOf st').Perm (pairsOf vs)->P (.done (.ret .none)) {s with heap:=sortedHeap s.heap a vs ((arrOf st').map (·.2))}:=by
  intro st' hp
  have hl:(arrOf st').toList.Perm (vs.zip vs):=by rw[<-pairsOf_toList];exact Array.perm_iff_toList_perm.mp hp
  have e:((arrOf st').map (·.2))=((arrOf st').toList.map (·.2)).toArray:=by rw[<-Array.toList_map,Array.toArray_toList]
  rw[e]
  refine h _ ?_
  have:=hl.map (·.2)
  rwa [List.map_snd_zip (Nat.le_refl _)] at this
 by_cases h2:vs.toArray.size < 2
 ·rw[if_pos h2,if_pos h2]
  refine wpAny_bind (wpAny_pure ?_)
  rw[StateT.run_pure]
  refine wpAny_bind (wpAny_pure ?_)
  dsimp only
  refine wpAny_bind (seqEpoch_at ho6 rfl ?_)
  refine wpAny_bind (listUpdate_at ho6 rfl ?_ (hsz2:=by rw[Array.size_map];show (pairsOf vs).size<=_;rw[pairsOf_size];exact Nat.le_succ_of_le hz))
  simp only[bne_self_eq_false,Bool.false_eq_true,if_false]
  exact wpAny_pure (fin (SortSt.mk' general' (vs.toArray.zip vs.toArray) #[] 7 none) (Array.Perm.refl _))
 ·rw[if_neg h2,if_neg h2]
  refine wpAny_bind (hkk (Nat.le_of_not_lt h2) _ hkeep _ ?_)
  refine wpAny_bind (wpAny_mono (qW (a₀:=pairsOf vs) (st:=SortSt.mk' kd (vs.toArray.zip vs.toArray) #[] 7 none)
   (Q:=fun _ st'=>(arrOf st').Perm (pairsOf vs)/\failedOf st'=none) (t9 (hL _ hkeep)) ⟨Array.Perm.refl _,rfl,rfl,rfl⟩ fun st' a1 a2=>⟨a1,a2⟩) ?_ fun _ _ e=>e)
  rintro ⟨⟨⟩,st'⟩ s' ⟨rfl,hp,hf⟩
  dsimp only
  refine wpAny_bind (seqEpoch_at ho6 rfl ?_)
  refine wpAny_bind (listUpdate_at ho6 rfl ?_ (hsz2:=by refine Nat.le_trans (Nat.le_of_eq ((Array.size_map ..).trans (hp.size_eq.trans (pairsOf_size _)))) ?_;exact Nat.le_succ_of_le hz))
  rw[hf]
  simp only[bne_self_eq_false,Bool.false_eq_true,if_false]
  exact wpAny_pure (fin st' hp)
end
set_option tactic.hygienic true
theorem rC (t:SetTable) (es:Array (Int×Value)) (h:Int) (x:Value):(layNew t es h x).2.1.led=t.led/\(t.plain=false->(layNew t es h x).2.1.plain=false):=by
 unfold layNew
 split
 ·dsimp only
  unfold SetTable.orStandIn
  split
  ·exact⟨rfl,fun h=>h⟩
  ·exact⟨rfl,fun _=>rfl⟩
 ·exact⟨rfl,fun _=>rfl⟩
theorem m9 (t:SetTable) (es:Array (Int×Value)) (n:Nat):(relayAll t es n).2.1.led=t.led/\(t.plain=false->(relayAll t es n).2.1.plain=false):=by
 unfold relayAll
 split
 ·rename_i t' order hr
  have h1:t'.led=t.led/\t'.plain=t.plain:=by
   unfold SetTable.relaid SetTable.laid at hr
   obtain ⟨ow,-,hr⟩:=Option.bind_eq_some_iff.mp hr
   cases Option.some.inj hr
   exact⟨rfl,rfl⟩
  dsimp only
  split
  ·exact⟨h1.1,fun h=>h1.2.trans h⟩
  ·exact⟨rfl,fun _=>rfl⟩
 ·exact⟨rfl,fun _=>rfl⟩
inductive SetX (prog:Program) (w:World) (h:Heap) (a:Addr) (led:Bool) (ks:List Str):Prop
 |mk (o:Obj) (es:Array (Int×Value)) (ep:Nat) (t:SetTable) (_:h.get? a=some o) (_:o.ExactSet) (_:o.data=.set es ep t) (_:ElemsOf (PySem.strKind prog w) es.toList) (_:es.size < scanBound) (_:t.fits es.size=true) (_:t.led=led) (_:es.size≠0->t.plain=false)
   (_:StrsAre (es.toList.map (·.2)) ks) (_:ks.Nodup)
theorem cL {vs vs':List Value} {ks:List Str} (h:StrsAre vs ks) (p:vs'.Perm vs):∃ks',StrsAre vs' ks'/\ks'.Perm ks:=by
 refine⟨vs'.map strOf,strsAre_map vs' fun v hv=>h.all v (p.mem_iff.mp hv),?_⟩
 rw[<-h.strs]
 exact p.map _
theorem oR {vs us:List Value} {ks js:List Str} (h:StrsAre vs ks) (h':StrsAre us js):StrsAre (vs++us) (ks++js):=by
 induction h with
 |nil=>exact h'
 |cons x t r ih=>exact .cons x t ih
section
variable {prog:Program} {w:World} {A:Around} {E:Value->Shared->Prop} {s:Shared}
theorem l7 (x:Str) (t:Tok):(PySem.strKind prog w).is x (.str x t)=true:=by
 show Value.isStrOf x (.str x t)=true
 simp[Value.isStrOf]
theorem vZ {k:Str} {v:Value} (h:(PySem.strKind prog w).is k v=true):∃t,v=.str k t:=Value.isStrOf_shape h
theorem fJ {h:Heap} {a:Addr} {o:Obj} {es es':Array (Int×Value)} {ep:Nat} {t t':SetTable} {led:Bool} {ks:List Str} (ho:h.get? a=some o) (hex:o.ExactSet) (hd:o.data=.set es ep t)
  (hel:ElemsOf (PySem.strKind prog w) es'.toList) (hb:es'.size < scanBound) (hf:t'.fits es'.size=true) (hl:t'.led=led) (hp:t'.plain=false) (hS:StrsAre (es'.toList.map (·.2)) ks) (hn:ks.Nodup) :
  (h.update a (Obj.putSet es' t')).get? a=some {o with data:=.set es' (ep+1) t'}/\SetX prog w (h.update a (Obj.putSet es' t')) a led ks:=by
 have hg:(h.update a (Obj.putSet es' t')).get? a=some {o with data:=.set es' (ep+1) t'}:=by
  have:=Heap.get?_update_self (Obj.putSet es' t') ho (by rw[putSet_of es' t' hd];rfl)
  rw[putSet_of es' t' hd] at this;exact this
 exact⟨hg,⟨_,es',ep+1,t',hg,hex,rfl,hel,hb,hf,hl,fun _=>hp,hS,hn⟩⟩
theorem o7 {a:Addr} {led:Bool} {ks:List Str} {x:Str} {u:Tok} {Q:Bool->Shared->Prop} (hS:SetX prog w s.heap a led ks) (hroom:ks.length+1 < scanBound)
  (h:∀h' ks',Heap.SameBut a s.heap h'->SetX prog w h' a led ks'->(∀y,y∈ks'↔y=x\/y∈ks)->ks'.length<=ks.length+1->∀b,Q b {s with heap:=h'}) :
  wpAny (model prog w) A (setAddHashed a (.str x u) ((PySem.strKind prog w).hash x)) Q E s:=by
 obtain ⟨o,es,ep,t,ho,hex,hd,hel,hb,hf,hled,hpl,hks,hnd⟩:=hS
 have hsize:es.size=ks.length:=by
  have h1:=congrArg List.length hks.strs
  simpa using h1
 have hkey:=l7 (prog:=prog) (w:=w) x u
 have hsc:(Value.str x u).scannable=true:=rfl
 unfold setAddHashed setAddHashedIn
 refine wpAny_holding (wpAny_bind (wpAny_setState_of ho hd hf ?_))
 dsimp only
 rw[byScan_of hsc hb hel]
 simp only[↓reduceIte]
 unfold setAddByScan
 refine wpAny_bind ?_
 refine wpAny_bind (wpAny_rule ?_)
 refine wpAny_bind (wpAny_setScan_of hkey ho hd hf hel ?_)
 have hmem:(∃e∈es.toList,(PySem.strKind prog w).is x e.2=true)↔x∈ks:=by
  rw[<-hks.strs]
  constructor
  ·rintro ⟨e,he,hp⟩
   refine x1_1 (vZ hp) fun t' e'=>?_
   exact List.mem_map.mpr ⟨e.2,List.mem_map.mpr ⟨e,he,rfl⟩,by rw[e'];rfl⟩
  ·intro hx
   refine x1_2 (List.mem_map.mp hx) fun v hv e1=>?_
   obtain ⟨e,he,rfl⟩:=List.mem_map.mp hv
   refine x2_1 (hks.all _ hv) fun y t' e2=>?_
   rw[e2] at e1
   have:y=x:=e1
   subst this
   exact⟨e,he,by rw[e2];exact l7 _ _⟩
 cases hr:List.findIdx? (fun e=>(PySem.strKind prog w).is x e.2) es.toList with
 |some j=>
  dsimp only
  obtain ⟨hj,hpj,_⟩:=List.findIdx?_eq_some_iff_getElem.mp hr
  have hxk:x∈ks:=hmem.mp ⟨es.toList[j],List.getElem_mem hj,hpj⟩
  refine wpAny_pure (wpAny_pure ?_)
  exact h s.heap ks (Heap.SameBut.refl a s.heap) ⟨o,es,ep,t,ho,hex,hd,hel,hb,hf,hled,hpl,hks,hnd⟩ (fun y=>⟨.inr,fun z=>z.elim (fun z=>z▸hxk) id⟩) (Nat.le_succ _) _
 |none=>
  dsimp only
  have hxk:x∉ks:=fun hx=>by
   refine x1_2 (hmem.mpr hx) fun e he hp=>?_
   have:=List.findIdx?_eq_none_iff.mp hr e he
   rw[hp] at this;exact Bool.noConfusion this
  have hperm:=layNew_perm t es ((PySem.strKind prog w).hash x) (.str x u)
  have hfits:=layNew_fits t es ((PySem.strKind prog w).hash x) (.str x u)
  have hlays:=rC t es ((PySem.strKind prog w).hash x) (.str x u)
  generalize hL:layNew t es ((PySem.strKind prog w).hash x) (.str x u)=L at hperm hfits hlays ⊢
  obtain ⟨es1,t1,wasDummy,gave⟩:=L
  dsimp only at hperm hfits hlays ⊢
  rw[Array.toList_push] at hperm
  have hel1:ElemsOf (PySem.strKind prog w) es1.toList:=(hel.push hkey hsc).perm hperm
  have hsz1:es1.size=ks.length+1:=by rw[<-Array.length_toList,hperm.length_eq,List.length_append,Array.length_toList,hsize];rfl
  have hb1:es1.size < scanBound:=by exact sK fun hg=>lN [(ks.length),scanBound,(es1.size)] 0x314241982520c61 rfl hroom (Nat.le_of_eq hsz1) hg
  have hp1:(es1.toList.map (·.2)).Perm (es.toList.map (·.2)++[Value.str x u]):=by
   have:=hperm.map (·.2)
   rwa [List.map_append] at this
  refine x1_2 (cL (oR hks (.cons x u .nil)) hp1) fun ks1 hks1 hpk=>?_
  have hmem1:∀y,y∈ks1↔y=x\/y∈ks:=fun y=>by
   rw[hpk.mem_iff,List.mem_append,List.mem_singleton]
   exact Or.comm
  have hnd1:ks1.Nodup:=by
   refine hpk.nodup_iff.mpr (List.nodup_append.mpr ⟨hnd,by simp,?_⟩)
   intro y hy z hz
   rw[List.mem_singleton.mp hz]
   rintro rfl;exact hxk hy
  have hlen1:ks1.length<=ks.length+1:=by rw[hpk.length_eq,List.length_append];exact Nat.le_refl _
  have fin:∀t2:SetTable,t2.fits es1.size=true->t2.led=led->t2.plain=false->
    wpAny (model prog w) A (do
     storeSet a es1 t2
     if (!wasDummy&&t2.tooFull)=true then do
       (match (relayAll t2 es1 (SetTable.grown es1.size)).2.2 with | true=>rule "set.scan.the-table-gave-way" | false=>pure ():Sem Unit)
       storeSet a (relayAll t2 es1 (SetTable.grown es1.size)).1 (relayAll t2 es1 (SetTable.grown es1.size)).2.1
       pure (some true)
      else pure (some true)) (fun r s'=>wpAny (model prog w) A (match r with | some added=>pure added | none=>setAddHashedIn a (.str x u) ((PySem.strKind prog w).hash x) 99999) Q E s') E s:=by
   intro t2 hf2 hl2 hpl2
   refine wpAny_bind (wpAny_storeSet_of ho hd ?_ (fits_of_scanBound hb1))
   refine bH (fJ (prog:=prog) (w:=w) ho hex hd hel1 hb1 hf2 hl2 hpl2 hks1 hnd1) fun ho1 hS1=>?_
   have hsb1:=Heap.SameBut.update s.heap a (Obj.putSet es1 t2)
   split
   ·have hp:=relayAll_perm t2 es1 (SetTable.grown es1.size)
    have hfr:=relayAll_fits t2 es1 (SetTable.grown es1.size)
    have hlr:=m9 t2 es1 (SetTable.grown es1.size)
    generalize hRl:relayAll t2 es1 (SetTable.grown es1.size)=Rl at hp hfr hlr ⊢
    obtain ⟨es2,t3,gave2⟩:=Rl
    dsimp only at hp hfr hlr ⊢
    have hel2:ElemsOf (PySem.strKind prog w) es2.toList:=hel1.perm hp
    have hsz:es2.size=es1.size:=by rw[<-Array.length_toList,hp.length_eq,Array.length_toList]
    have hb2:es2.size < scanBound:=by rw[hsz];exact hb1
    refine x1_2 (cL hks1 (hp.map (·.2))) fun ks2 hks2 hpk2=>?_
    have step2:wpAny (model prog w) A (do
      storeSet a es2 t3
      pure (some true)) (fun r s'=>wpAny (model prog w) A (match r with | some added=>pure added | none=>setAddHashedIn a (.str x u) ((PySem.strKind prog w).hash x) 99999) Q E s') E {s with heap:=s.heap.update a (Obj.putSet es1 t2)}:=by
     refine wpAny_bind (wpAny_storeSet_of ho1 rfl ?_ (fits_of_scanBound hb2))
     refine bH (fJ (prog:=prog) (w:=w) ho1 hex rfl hel2 hb2 hfr (hlr.1.trans hl2) (hlr.2 hpl2) hks2 (hpk2.nodup_iff.mpr hnd1)) fun _ hS2=>?_
     exact wpAny_pure (wpAny_pure (h _ ks2 (hsb1.trans (Heap.SameBut.update _ a _)) hS2 (fun y=>hpk2.mem_iff.trans (hmem1 y)) (by rw[hpk2.length_eq];exact hlen1) _))
    cases gave2
    ·exact wpAny_bind (wpAny_pure step2)
    ·exact wpAny_bind (wpAny_rule step2)
   ·exact wpAny_pure (wpAny_pure (h _ ks1 hsb1 hS1 hmem1 hlen1 _))
  have hgw:∀(b:Bool) {s₁:Shared} {Q':Unit->Shared->Prop},Q' () s₁->wpAny (model prog w) A (match b with | true=>rule "set.scan.the-table-gave-way" | false=>pure ()) Q' E s₁:=
   fun b s₁ Q' hq=>by cases b<;>first | exact wpAny_pure hq | exact wpAny_rule hq
  refine wpAny_bind (hgw _ ?_)
  by_cases hplain:t1.plain=true
  ·rw[if_pos hplain]
   refine wpAny_bind ?_
   rw[hashByValue_scannable 8 hsc]
   refine wpAny_pure ?_
   rw[show plainKind (Value.str x u)=false from rfl]
   simp only[Bool.false_eq_true,if_false]
   exact fin _ (SetTable.fits_plain_off hfits) (hlays.1.trans hled) rfl
  ·rw[if_neg hplain]
   refine wpAny_bind (wpAny_pure ?_)
   simp only[↓reduceIte]
   exact fin _ hfits (hlays.1.trans hled) (by simpa using hplain)
end
set_option tactic.hygienic false
theorem SetX.at {prog:Program} {w:World} {h h':Heap} {a:Addr} {led:Bool} {ks:List Str} (x:SetX prog w h a led ks) (k:∀o,h.get? a=some o->h'.get? a=some o):SetX prog w h' a led ks:=
 let ⟨o,es,ep,t,ho,h1,h2,h3,h4,h5,h6,h7,h8,h9⟩:=x;⟨o,es,ep,t,k o ho,h1,h2,h3,h4,h5,h6,h7,h8,h9⟩
theorem lX:∀{vs:List Value} {ks:List Str},StrsAre vs ks->∀(i:Nat) (h:i < ks.length),∃t,vs[i]?=some (.str ks[i] t)
 |_,_,.cons x t r,0,_=>⟨t,rfl⟩
 |_,_,.cons x t r,i+1,h=>by
  obtain ⟨t',e⟩:=lX r i (by simpa using h)
  exact⟨t',by simpa using e⟩
section
variable {prog:Program} {w:World} {E:Value->Shared->Prop}
theorem m6 {A:Around} {l I S:Addr} {items:Array Value} {ss:List Str} {led:Bool} {R:Result->Shared->Prop} (hh:A.handled=none) (hIl:l≠I) (hSI:S≠I) (hSl:S≠l) (hss:StrsAre items.toList ss) (hb:ss.length+1 < scanBound) :
  ∀(k i:Nat) (s:Shared) (ks:List Str),items.size-i=k->i<=items.size->s.heap.IsListIter I l i->s.heap.IsList l items->SetX prog w s.heap S led ks->ks.length<=i->(∀y,y∈ks↔y∈ss.take i)->
   (∀h' tk ks',SetX prog w h' S led ks'->(∀y,y∈ks'↔y∈ss)->(∀b o,b≠S->b≠I->s.heap.get? b=some o->h'.get? b=some o)->R (.ok (.ret .none)) {s with heap:=h',toks:=tk})->
   codeAny (model prog w) A (.builtin "set.update.loop" ⟨[.ref S,.ref I],[]⟩) R s:=by
 have hlen:items.size=ss.length:=by have:=congrArg List.length hss.strs;simpa using this
 intro k
 induction k with
 |zero=>
  intro i s ks hk hi st hl hS hle hmem hR
  have hin:i=items.size:=Nat.le_antisymm hi (Nat.le_of_sub_eq_zero hk)
  refine codeAny_builtin F.entry_set_update_loop ?_
  rw[Around.under_plainId F.plain_set_update_loop _]
  show wpAny _ A.in1 (pyNext (.ref I) >>=_) _ _ s
  refine wpAny_bind (wpAny_pyNext_list_end (by show A.handled=_;exact hh) st hl (by simp;exact Nat.le_of_eq hin.symm) fun h' hx=>?_)
  show wpAny _ A.in1 (ret Value.none) _ _ _
  refine wpAny_pure (hR h' s.toks ks (hS.at fun o e=>hx S o hSI e) (fun y=>?_) fun b o _ hbI e=>hx b o hbI e)
  rw[hmem y,hin,hlen,List.take_length]
 |succ k ih=>
  intro i s ks hk hi st hl hS hle hmem hR
  have hlt:i < items.size:=by exact sK fun hg=>lN [(items.size),(items.size-i),k,i] 0x390243940129861 rfl (Nat.le_of_eq (Eq.symm hk)) (fD (gY fun hg=>lN [(items.size),i] 0x1483090a1 rfl hi hg)) hg
  have hlt2:i < ss.length:=by exact Nat.lt_of_lt_of_eq hlt hlen
  refine x1_1 (lX hss i hlt2) fun t et=>?_
  refine codeAny_builtin F.entry_set_update_loop ?_
  rw[Around.under_plainId F.plain_set_update_loop _]
  show wpAny _ A.in1 (pyNext (.ref I) >>=_) _ _ s
  refine wpAny_bind (wpAny_pyNext_list_item st hl (x:=.str ss[i] t) (by rw[<-Array.getElem?_toList];exact et) fun h' st' hs'=>?_)
  have hS':=hS.at (h':=h') fun o e=>hs'.extBut S o hSI e
  have hl':h'.IsList l items:=hl.extBut hs'.extBut hIl
  show wpAny _ A.in1 (holding [Value.str ss[i] t] (setAdd S (.str ss[i] t)) >>=_) _ _ _
  refine wpAny_bind (wpAny_holding ?_)
  unfold setAdd
  refine wpAny_holding ?_
  refine wpAny_bind ((PySem.strKind prog w).pyHash (k:=ss[i]) (l7 _ _) ?_)
  refine o7 (s:={s with heap:=h',toks:=s.toks+1}) hS' (by exact sK fun hg=>lN [(ss.length),scanBound,(items.size),i,(ks.length)] 0x2065098e309d012182520c61 rfl hb (Nat.le_of_eq hlen) hle hlt hg) fun h'' ks' hsb hS2 hm2 hl2 b=>?_
  have keep:∀b o,b≠S->b≠I->s.heap.get? b=some o->h''.get? b=some o:=fun b o h1 h2 e=>hsb.extBut b o h1 (hs'.extBut b o h2 e)
  refine wpAny_pure ⟨plainId_quiet F.plain_set_update_loop _,ih (i+1) _ ks' (by rw[Nat.sub_add_eq,hk];rfl) hlt (st'.at fun o e=>hsb.extBut I o (Ne.symm hSI) e) (hl'.extBut hsb.extBut (Ne.symm hSl)) hS2 (by exact gY fun hg=>lN [i,(ks.length),(ks'.length)] 0x3106309466090a1 rfl hle hl2 hg) (fun y=>?_) fun h3 tk ks3 a1 a2 a3=>?_⟩
  ·rw[hm2 y,List.take_add_one,List.getElem?_eq_getElem hlt2,List.mem_append,hmem y]
   simp only[Option.toList_some,List.mem_singleton]
   exact Or.comm
  ·exact hR h3 tk ks3 a1 a2 fun b o h1 h2 e=>a3 b o h1 h2 (keep b o h1 h2 e)
theorem oZ {A:Around} {s:Shared} (a:Value) {Q₁:Value->Shared->Prop}
  (h:Q₁ (.ref s.heap.objs.size) {s with heap:=s.heap.push {cls:=.type "set",dict:=none,data:=.set #[] 0 (.fresh 0 0 (!w.params.followText "set-order"))}}) :
  codeAny (model prog w) A (.call (.builtin "set.__new__") ⟨[.type "set",a],[]⟩) (wants Q₁ E) s:=by
 refine codeAny_of_tree ?_
 show wpAny _ A.in1 (do checkBuiltinCall "set.__new__" ⟨[.type "set",a],[]⟩;again (.builtin "set.__new__" ⟨[.type "set",a],[]⟩)) _ _ s
 refine wpAny_bind (wpAny_of_eq (PySem.F.newCall_set_1 a) (wpAny_pure ⟨plainId_quiet PySem.F.plain_set_new _,codeAny_builtin PySem.F.entry_set_new ?_⟩))
 rw[Around.under_plainId PySem.F.plain_set_new _]
 unfold Builtin.«set.__new__» Builtin.Frozenset.newClass
 have hsub:=sub_set_self
 obtain ⟨hp,g,d,tk,os⟩:=s
 dsimp only
 wp_walk
 refine wpAny_askSetting (wpAny_pure ?_)
 dsimp only
 simp only[newObj]
 refine wpAny_bind (wpAny_alloc (wpAny_pure ?_))
 exact wpAny_pure h
set_option maxRecDepth 100000 in
set_option maxHeartbeats 3200000 in
theorem n7 {A:Around} {s:Shared} {l:Addr} {items:Array Value} {ss:List Str} {Q:Value->Shared->Prop} (hh:A.handled=none) (hl:s.heap.IsList l items) (hss:StrsAre items.toList ss) (hb:ss.length+1 < scanBound)
  (h:∀(h':Heap) (tk:Nat) (ks:List Str),SetX prog w h' s.heap.objs.size (!w.params.followText "set-order") ks->(∀y,y∈ks↔y∈ss)->
   (∀b o,s.heap.get? b=some o->h'.get? b=some o)->Q (.ref s.heap.objs.size) {s with heap:=h',toks:=tk}) :
  wpAny (model prog w) A (call (.type "set") [.ref l]) Q E s:=by
 refine x2_1 PySem.F.called_set.mro fun c tl hmro=>?_
 have hmade:=PySem.F.called_set.made
 have hsub:=PySem.F.called_set.sub
 refine wpAny_call (codeAny_of_tree ?_)
 show wpAny _ _ (callAny (.type "set") _) _ _ _
 refine wpAny_pure ⟨Code.quiet_builtin _ (by decide +kernel),codeAny_builtin PySem.F.entry_type_call ?_⟩
 rw[Around.under_plain (weight_type_call_type "set" [.ref l] []) rfl]
 have h1:=PySem.F.called_set.notType
 have h2:=PySem.F.called_set.canCreate
 have hct:=PySem.F.typeCall_set_1 (.ref l)
 repeat (any_goals (first | assumption | wp_step))
 generalize hled:(!w.params.followText "set-order")=led at h
 refine codeAny_mono (oZ (.ref l) (E:=E) (Q₁:=fun obj s₁=>obj=.ref s.heap.objs.size/\s₁={s with heap:=s.heap.push {cls:=.type "set",dict:=none,data:=.set #[] 0 (.fresh 0 0 led)}}) ⟨rfl,by rw[hled]⟩) fun r s₁ hr=>?_
 cases r with
 |error e=>exact hr
 |ok fl=>
  cases fl with
  |ret obj=>
   obtain ⟨rfl,rfl⟩:=hr
   have hS:(s.heap.push {cls:=.type "set",dict:=none,data:=.set #[] 0 (.fresh 0 0 led)}).get? s.heap.objs.size=some {cls:=.type "set",dict:=none,data:=.set #[] 0 (.fresh 0 0 led)}:=Heap.get?_push_size _ rfl
   have hT:Shared.TypeIs {s with heap:=s.heap.push {cls:=.type "set",dict:=none,data:=.set #[] 0 (.fresh 0 0 led)}} (.ref s.heap.objs.size) "set":=⟨_,hS,rfl⟩
   have hli:=PySem.F.called_set.init.lookup
   have hbi:=PySem.F.called_set.init.bind (.ref s.heap.objs.size)
   repeat (any_goals (first | assumption | wp_step))
   refine codeAny_mono (codeAny_call_builtin (R:=wants (fun r s₂=>r=.none/\∃h' tk ks,s₂={s with heap:=h',toks:=tk}/\SetX prog w h' s.heap.objs.size led ks/\(∀y,y∈ks↔y∈ss)/\
     (∀b o,s.heap.get? b=some o->h'.get? b=some o)) E) PySem.F.called_set.init.plain PySem.F.entry_set_init (check_set_init_1 hT ?_)) fun r₂ s₂ hr₂=>?_
   ·obtain ⟨ol,hol,hcl,nl,hdl⟩:=hl
    obtain ⟨ocls,odict,odata,oslots⟩:=ol
    simp only at hcl hdl
    subst hcl;subst hdl
    have hol':(s.heap.push {cls:=.type "set",dict:=none,data:=.set #[] 0 (.fresh 0 0 led)}).get? l=some {cls:=.type "list",dict:=odict,data:=.seq items nl,slots:=oslots}:=Heap.get?_push_of_some _ hol
    have hsls:=PySem.F.sub_list_set
    have hslf:=PySem.F.sub_list_frozenset
    have hne:(Value.type "list" == Value.type "dict")=false:=by decide
    have hl1:(s.heap.push {cls:=.type "set",dict:=none,data:=.set #[] 0 (.fresh 0 0 led)}).IsList l items:=⟨_,hol',rfl,nl,rfl⟩
    unfold Builtin.«set.__init__» noKeywords Builtin.Frozenset.updateFrom
    generalize hPI:pyIter=PI
    wp_walk
    subst hPI
    refine wpAny_pyIter_list hl1 ?_
    refine wpAny_bind (wpAny_runValue ?_)
    have hlS:l < s.heap.objs.size:=Heap.lt_size hol
    have hh3:A.in1.in1.in1.handled=none:=by simp[hh]
    have hneI:l≠(s.heap.push {cls:=.type "set",dict:=none,data:=.set #[] 0 (.fresh 0 0 led)}).objs.size:=by
     rw[Heap.size_push];exact Nat.ne_of_lt (Nat.lt_succ_of_lt hlS)
    have hSI:s.heap.objs.size≠(s.heap.push {cls:=.type "set",dict:=none,data:=.set #[] 0 (.fresh 0 0 led)}).objs.size:=by
     rw[Heap.size_push];exact Nat.ne_of_lt (Nat.lt_succ_self _)
    refine m6 (led:=led) (by show A.handled=_;exact hh) hneI hSI (Nat.ne_of_gt hlS) hss hb (items.size-0) 0 _ [] (by exact rfl) (Nat.zero_le _) ⟨_,Heap.get?_push_size _ rfl,rfl,rfl⟩ (hl1.push _)
     ⟨_,#[],0,_,Heap.get?_push_of_some _ hS,⟨rfl,rfl,rfl⟩,rfl,fun e he=>by simp at he,by decide,by rfl,rfl,fun z=>absurd rfl z,.nil,List.nodup_nil⟩ (Nat.le_refl _) (fun y=>by simp) fun h' tk ks a1 a2 a3=>?_
    show wpAny _ _ _ _ _ _
    refine wpAny_pure ?_
    show wpAny _ _ (ret Value.none) _ _ _
    refine wpAny_pure ⟨rfl,h',tk,ks,rfl,a1,a2,fun b o e=>?_⟩
    have hb0:=Heap.lt_size e
    exact a3 b o (Nat.ne_of_lt hb0) (by rw[Heap.size_push];exact Nat.ne_of_lt (Nat.lt_succ_of_lt hb0)) (Heap.get?_push_of_some _ (Heap.get?_push_of_some _ e))
   ·cases r₂ with
    |error e=>exact hr₂
    |ok fl₂=>
     cases fl₂ with
     |ret r=>
      obtain ⟨rfl,h',tk,ks,rfl,a1,a2,a3⟩:=hr₂
      repeat (any_goals (first | assumption | wp_step))
      exact h _ _ ks a1 a2 a3
     |_=>exact hr₂.elim
  |_=>exact hr.elim
end
theorem aQ:Slot "set_iterator" "__next__" "set_iterator.__next__":=
 .of (owner:="set_iterator") (n:="__next__") (by rw[typeLookup_type,builtinLookup_eq_fast];kernel_rfl) (by decide +kernel) (by decide +kernel) (by decide +kernel)
  (by first | exact .inl (by decide +kernel) | exact .inr (by decide +kernel)) (by rw[isSubtype_type];kernel_rfl)
theorem cn:Slot "set_iterator" "__iter__" "set_iterator.__iter__":=
 .of (owner:="set_iterator") (n:="__iter__") (by rw[typeLookup_type,builtinLookup_eq_fast];kernel_rfl) (by decide +kernel) (by decide +kernel) (by decide +kernel)
  (by first | exact .inl (by decide +kernel) | exact .inr (by decide +kernel)) (by rw[isSubtype_type];kernel_rfl)
theorem cc:entryFor table "set_iterator.__next__"=some Builtin.«set_iterator.__next__»:=entryFor_of_tree (by kernel_rfl)
theorem cr (a:Value):argsOk "set_iterator.__next__" ⟨[a],[]⟩:=by unfold argsOk;kernel_rfl
theorem fc (a:Value):argsOk "set_iterator.__iter__" ⟨[a],[]⟩:=by unfold argsOk;kernel_rfl
theorem gy:entryFor table "set.__iter__"=some Builtin.«frozenset.__iter__»:=
 entryFor_alias (id':="frozenset.__iter__") (by kernel_rfl) rfl (by decide +kernel) (by kernel_rfl)
theorem eJ:entryFor table "set_iterator.__iter__"=some Builtin.«dict_keyiterator.__iter__»:=
 entryFor_alias (id':="dict_keyiterator.__iter__") (by kernel_rfl) rfl (by decide +kernel) (by kernel_rfl)
theorem dv {α:Type} {x:α}:∀{l:List α} {i:Nat},l[i]?=some x->(x::l.eraseIdx i).Perm l
 |[],i,h=>by simp at h
 |a::l,0,h=>by simp at h;subst h;exact List.Perm.refl _
 |a::l,i+1,h=>by
  rw[List.eraseIdx_cons_succ]
  exact (List.Perm.swap _ _ _).trans ((dv (by simpa using h)).cons a)
theorem mq {α:Type} (next:Nat->Nat):∀(n k:Nat) (left:List α) (out:Array α),left.length=n->(pickOrder.go next n k left out).toList.Perm (out.toList++left)
 |0,k,left,out,h=>by
  have:left=[]:=List.length_eq_zero_iff.mp h
  subst this
  simp[pickOrder.go]
 |n+1,k,left,out,h=>by
  have hlt:next k % left.length < left.length:=Nat.mod_lt _ (by exact sK fun hg=>lN [(left.length),n] 0x48121461 rfl (Nat.le_of_eq (Eq.symm h)) hg)
  unfold pickOrder.go
  rw[List.getElem?_eq_getElem hlt]
  dsimp only
  refine (mq next n (k+1) _ _ (by rw[List.length_eraseIdx_of_lt hlt];exact Nat.le_antisymm (gY fun hg=>lN [(left.length),n,(left.length-1)] 0x314612186128c81 rfl (Nat.le_of_eq h) (fD (gY fun hg=>lN [(left.length),n] 0x210906121461 rfl (Nat.le_of_eq (Eq.symm h)) hg)) hg) (gY fun hg=>lN [(left.length),n,(left.length-1)] 0x2986130c8121461 rfl (Nat.le_of_eq (Eq.symm h)) (kH (left.length) (1)) hg))).trans ?_
  rw[Array.toList_push,List.append_assoc]
  exact List.Perm.append_left _ (dv (List.getElem?_eq_getElem hlt))
theorem ng {α:Type} (next:Nat->Nat) (xs:Array α):(pickOrder next xs).toList.Perm xs.toList:=by
 have:=mq next xs.size 0 xs.toList #[] (by simp)
 simpa [pickOrder] using this
section
variable {prog:Program} {w:World} {A:Around} {E:Value->Shared->Prop}
theorem i9 {s:Shared} {src:Source} {n:Nat} {Q:Nat->Shared->Prop} (hn:n≠0) (h:∀i d,i < n->Q i {s with drawn:=d}):wpAny (model prog w) A (choose src n) Q E s:=
 fun _ _ _=>⟨hn,h _ _ (Nat.mod_lt _ (Nat.pos_of_ne_zero hn))⟩
theorem cm {α:Type}:∀(n:Nat) (xs:List α) {s:Shared} {Q:List α->Shared->Prop},xs.length=n->(∀ys d,ys.Perm xs->Q ys {s with drawn:=d})->wpAny (model prog w) A (drawOrder n xs) Q E s
 |0,xs,s,Q,hl,h=>by
  have:xs=[]:=List.length_eq_zero_iff.mp hl
  subst this
  exact wpAny_pure (h [] s.drawn (List.Perm.refl _))
 |n+1,xs,s,Q,hl,h=>by
  match xs,hl with
  |x::xs,hl=>
   show wpAny _ A (choose .order (x::xs).length >>=_) _ _ s
   refine wpAny_bind (i9 (by simp) fun i d hi=>?_)
   rw[List.getElem?_eq_getElem hi]
   dsimp only
   refine wpAny_bind (cm n ((x::xs).eraseIdx i) (by rw[List.length_eraseIdx_of_lt hi];simp at hl ⊢;exact hl) fun ys d' hp=>wpAny_pure ?_)
   exact h _ d' ((hp.cons _).trans (dv (List.getElem?_eq_getElem hi)))
end
inductive SetM (w:World) (a:Addr) (es:Array (Int×Value)) (ep:Nat) (t:SetTable) (i:Nat) (h:Heap):List Value->Option Addr->Value->Prop
 |txt (_:w.params.followText "set-order"=true) (f:Int):SetM w a es ep t i h ((pickOrder (w.params.setOrder a ep) es).toList.map (·.2)) none (.int f 0)
 |drw (_:w.params.followText "set-order"=false) (b:Addr) (order:List Nat) (o:Obj) (n:Nat) (_:h.get? b=some o) (_:o.data=.seq (order.map fun (j:Nat)=>rawInt j).toArray n) (_:∀j∈order,j < es.size):SetM w a es ep t i h (order.filterMap fun j=>es[j]?.map (·.2)) (some b) (.ref b)
 |one (_:w.params.followText "set-order"=false) (_:t.led=true) (_:es.size<=1) (slot:Nat) (_:SetTable.below t.place slot=i):SetM w a es ep t i h (es.toList.map (·.2)) none (.int slot 0)
inductive SetSt (w:World) (I a:Addr) (es:Array (Int×Value)) (ep:Nat) (t:SetTable) (vs:List Value) (tup:Option Addr) (i:Nat) (h:Heap):Prop
 |mk (oa:Obj) (_:h.get? a=some oa) (_:oa.cls=.type "set") (_:oa.data=.set es ep t) (o:Obj) (first:Value) (_:h.get? I=some o) (_:o.cls=.type "set_iterator") (_:o.data=.fields #[first,.int i 0,.ref a,.int es.size 0,.int ep 0])
   (_:SetM w a es ep t i h vs tup first)
theorem lJ (xs:Array Nat) (h:xs.size<=1):SetTable.below xs 0=0:=by
 unfold SetTable.below
 match hs:xs.size,h with
 |0,_=>rfl
 |1,_=>
  unfold SetTable.below.go
  simp
  unfold SetTable.below.go
  rfl
theorem n8 (xs:Array Nat) (j:Nat) (hs:xs.size=1) (h:xs[0]?=some j):SetTable.below xs (j+1)=1:=by
 unfold SetTable.below
 rw[hs]
 unfold SetTable.below.go
 have:xs.getD 0 (j+1)=j:=by rw[Array.getD_eq_getD_getElem?,h];rfl
 simp[this]
 unfold SetTable.below.go
 rfl
section
variable {prog:Program} {w:World} {A:Around} {E:Value->Shared->Prop}
theorem eM {s:Shared} {Q:Bool->Shared->Prop} (h:Q (w.params.followText "set-order") s):wpAny (model prog w) A setsByText Q E s:=by
 unfold setsByText
 exact wpAny_bind (wpAny_askSetting (wpAny_pure h))
theorem cf {s:Shared} {a:Addr} {o:Obj} {es:Array (Int×Value)} {ep:Nat} {t:SetTable} {slot i:Nat} {Q:Option (Value×Nat)->Shared->Prop} (ho:s.heap.get? a=some o) (hd:o.data=.set es ep t) (hf:t.fits es.size=true)
  (hm:w.params.followText "set-order"=true\/(t.led=true/\es.size<=1))
  (h1:w.params.followText "set-order"=true->Q (((pickOrder (w.params.setOrder a ep) es)[i]?).map fun e=>(e.2,slot)) s)
  (h2:w.params.followText "set-order"=false->Q (match es[SetTable.below t.place slot]?,t.place[SetTable.below t.place slot]? with | some (_,x),some j=>some (x,j+1) | _,_=>none) s) :
  wpAny (model prog w) A (setNext a slot i ep) Q E s:=by
 unfold setNext
 refine wpAny_bind (wpAny_setState_of ho hd hf ?_)
 dsimp only
 refine wpAny_bind (eM ?_)
 cases hb:w.params.followText "set-order" with
 |true=>
  simp only[if_true]
  rw[if_neg (by simp)]
  refine wpAny_bind ?_
  unfold setWalk
  refine wpAny_bind (wpAny_setState_of ho hd hf ?_)
  dsimp only
  refine wpAny_bind (eM ?_)
  rw[hb]
  simp only[if_true]
  refine wpAny_bind (wpAny_askSetting (wpAny_pure (wpAny_pure ?_)))
  exact h1 hb
 |false=>
  have hm':=hm.resolve_left (by rw[hb];simp)
  simp only[Bool.false_eq_true,if_false]
  refine wpAny_ite_split (fun hd=>?_) fun _=>?_
  ·exfalso
   have hd':(!t.plain&&decide (es.size > 1))=true:=hd
   rw[Bool.and_eq_true,decide_eq_true_eq] at hd'
   exact False.elim (lN [(es.size)] 0x102108c2108481 rfl (hm').2 (hd').2)
  refine wpAny_bind (m:=_) (Q:=_) ?_
  refine wpAny_ite_split (fun hl=>?_) fun _=>?_
  ·exfalso
   rw[hm'.1] at hl
   simp at hl
  refine wpAny_pure (wpAny_pure ?_)
  exact h2 hb
theorem kO {s:Shared} {I a:Addr} {es:Array (Int×Value)} {ep:Nat} {t:SetTable} {vs:List Value} {tup:Option Addr} {i:Nat} {v:Value} {Q:Option Value->Shared->Prop} (hIa:a≠I) (hIt:∀b,tup=some b->b≠I) (hf:t.fits es.size=true) (st:SetSt w I a es ep t vs tup i s.heap) (hv:vs[i]?=some v)
  (hQ:∀h',Heap.SameBut I s.heap h'->SetSt w I a es ep t vs tup (i+1) h'->Q (some v) {s with heap:=h'}):wpAny (model prog w) A (pyNext (.ref I)) Q E s:=by
 obtain ⟨oa,hoa,hca,hda,oI,first,hoI,hcI,hdI,hm⟩:=st
 have hT:s.TypeIs (.ref I) "set_iterator":=⟨oI,hoI,hcI⟩
 have hc1:((i:Int)+1)=((i+1:Nat):Int):=by push_cast;rfl
 unfold pyNext
 refine wpAny_bind (wpAny_attempt (wpAny_callSpecial?_slot (name:=Str.ofString "__next__") hT aQ (wpAny_call_entry aQ hT cc ?_ (cr _))))
 refine wpAny_bind (wpAny_pure ?_)
 refine wpAny_bind (wpAny_fieldsOf hoI hdI ?_)
 dsimp only
 refine wpAny_bind (wpAny_bind (wpAny_setState_of hoa hda hf (wpAny_pure ?_)))
 dsimp only
 rw[if_neg (by simp)]
 have two:∀(n:Nat),
   (∀h' o',Heap.SameBut I s.heap h'->h'.get? I=some o'->o'.cls=.type "set_iterator"->o'.data=.fields #[.int n 0,.int (i+1:Nat) 0,.ref a,.int es.size 0,.int ep 0]->Q (some v) {s with heap:=h'})->
   wpAny (model prog w) A.in1 (do
     setField (Value.ref I) 0 (rawInt n)
     setField (Value.ref I) 1 (rawInt ((i:Int)+1))
     ret v) (fun fin s'=>∃v,fin=Fin.done (Flow.ret v)/\wpAny (model prog w) A (pure (some v)) Q E s')
    (fun e s'=>wpAny (model prog w) A (do
     let b <-isInstance e (Value.type "StopIteration")
     if b=true then pure none else throw e) Q E s') s:=by
  intro n hP
  refine wpAny_bind (wpAny_setField hoI hdI (by simp) ?_)
  have d1:=Obj.data_mapFields hdI (·.setIfInBounds 0 (rawInt (n:Int)))
  have g1:=Heap.get?_update_self (Obj.mapFields (·.setIfInBounds 0 (rawInt (n:Int)))) hoI (Obj.isFreed_of_fields d1)
  refine wpAny_bind (wpAny_setField (s:={s with heap:=_}) g1 d1 (by simp) ?_)
  have d2:=Obj.data_mapFields d1 (·.setIfInBounds 1 (rawInt ((i:Int)+1)))
  have g2:=Heap.get?_update_self (Obj.mapFields (·.setIfInBounds 1 (rawInt ((i:Int)+1)))) g1 (Obj.isFreed_of_fields d2)
  refine wpAny_pure ⟨_,rfl,wpAny_pure (hP _ _ ((Heap.SameBut.update ..).trans (Heap.SameBut.update ..)) g2 ?_ ?_)⟩
  ·rw[Obj.cls_mapFields,Obj.cls_mapFields];exact hcI
  ·rw[d2,hc1];rfl
 have keepA:∀h',Heap.SameBut I s.heap h'->h'.get? a=some oa:=fun h' hs=>hs.extBut a oa hIa hoa
 rcases hm with ⟨hb,f⟩ | ⟨hb,b,order,ob,n,hob,hdb,hlt⟩ | ⟨hb,hled,hsz,slot,hsl⟩
 ·dsimp only
  refine wpAny_bind (cf hoa hda hf (.inl hb) (fun _=>?_) fun z=>by rw[hb] at z;cases z)
  have hi:(pickOrder (w.params.setOrder a ep) es)[i]?=some ((pickOrder (w.params.setOrder a ep) es)[i]?.getD (0,.none)):=by
   rw[List.getElem?_map,Array.getElem?_toList] at hv
   refine x1_2 (Option.map_eq_some_iff.mp hv) fun e he _=>?_
   rw[he];rfl
  have hve:((pickOrder (w.params.setOrder a ep) es)[i]?.getD (0,.none)).2=v:=by
   rw[List.getElem?_map,Array.getElem?_toList,hi] at hv
   exact Option.some.inj hv
  simp only[Int.toNat_natCast]
  rw[hi]
  simp only[Option.map_some]
  rw[hve]
  refine two _ fun h' o' hs g c d=>hQ h' hs ⟨oa,keepA h' hs,hca,hda,o',_,g,c,d,.txt hb _⟩
 ·dsimp only
  refine wpAny_bind (wpAny_seqItems hob hdb ?_)
  dsimp only
  have hil:i < order.length:=by
   have h1:=(List.getElem?_eq_some_iff.mp hv).1
   exact Nat.lt_of_lt_of_le h1 (List.length_filterMap_le (fun j=>es[j]?.map (·.2)) order)
  have hall:(order.filterMap fun j=>es[j]?.map (·.2))=order.map fun j=>(es[j]?.map (·.2)).getD .none:=by
   clear hv hil hob hdb hdI hQ two
   induction order with
   |nil=>rfl
   |cons j r ih=>
    have hj:=hlt j (List.mem_cons_self ..)
    rw[List.filterMap_cons,List.map_cons,ih fun k hk=>hlt k (List.mem_cons_of_mem _ hk),getElem?_pos es j hj]
    rfl
  have hj:order[i] < es.size:=hlt _ (List.getElem_mem hil)
  have hve:es[order[i]].2=v:=by
   rw[hall,List.getElem?_map,List.getElem?_eq_getElem hil,Option.map_some,getElem?_pos es _ hj] at hv
   exact Option.some.inj hv
  have hpl:(((order.map fun (j:Nat)=>rawInt j).toArray)[((i:Nat):Int).toNat]?)=some (.int order[i] 0):=by
   simp[hil,rawInt]
  rw[hpl]
  dsimp only
  refine wpAny_bind ?_
  unfold setNextDrawn
  refine wpAny_bind (wpAny_setState_of hoa hda hf ?_)
  dsimp only
  rw[if_neg (by simp),Int.toNat_natCast,getElem?_pos es _ hj]
  dsimp only
  refine wpAny_pure ?_
  refine wpAny_bind (wpAny_setField hoI hdI (by simp) ?_)
  have d1:=Obj.data_mapFields hdI (·.setIfInBounds 1 (rawInt ((i:Int)+1)))
  have g1:=Heap.get?_update_self (Obj.mapFields (·.setIfInBounds 1 (rawInt ((i:Int)+1)))) hoI (Obj.isFreed_of_fields d1)
  rw[hve]
  refine wpAny_pure ⟨_,rfl,wpAny_pure (hQ _ (Heap.SameBut.update ..) ⟨oa,keepA _ (Heap.SameBut.update ..),hca,hda,_,_,g1,?_,?_,.drw hb b order ob n ((Heap.SameBut.update s.heap I _).extBut b ob (hIt b rfl) hob) hdb hlt⟩)⟩
  ·rw[Obj.cls_mapFields];exact hcI
  ·rw[d1,hc1];rfl
 ·dsimp only
  refine wpAny_bind (cf hoa hda hf (.inr ⟨hled,hsz⟩) (fun z=>by rw[hb] at z;cases z) fun _=>?_)
  simp only[Int.toNat_natCast,hsl]
  have hi0:i < es.size:=by
   have h1:=(List.getElem?_eq_some_iff.mp hv).1
   simpa using h1
  have hi1:i=0:=by exact Nat.le_antisymm (gY fun hg=>lN [(es.size),i] 0xa008c2428c2108481 rfl hsz hi0 hg) (gY fun hg=>lN [(SetTable.below t.place slot),i] 0x4a309481 rfl (Nat.le_of_eq hsl) hg)
  subst hi1
  have hps:t.place.size=es.size:=by
   simp only[SetTable.fits,Bool.and_eq_true,beq_iff_eq] at hf
   exact hf.1
  rw[getElem?_pos es 0 hi0,getElem?_pos t.place 0 (by exact Nat.le_trans hi0 (Nat.le_of_eq hps.symm))]
  have hve:es[0].2=v:=by
   rw[List.getElem?_map,Array.getElem?_toList,getElem?_pos es 0 hi0] at hv
   exact Option.some.inj hv
  dsimp only
  rw[hve]
  refine two (t.place[0]+1) fun h' o' hs g c d=>hQ h' hs ⟨oa,keepA h' hs,hca,hda,o',_,g,c,d,.one hb hled hsz _ (n8 _ _ (by exact Nat.le_antisymm (gY fun hg=>lN [(es.size),(t.place.size)] 0xa1084612142108481 rfl hsz (Nat.le_of_eq hps) hg) (gY fun hg=>lN [(es.size),(t.place.size)] 0x21094612902400461 rfl hi0 (Nat.le_of_eq (Eq.symm hps)) hg)) (getElem?_pos t.place 0 (by exact Nat.le_trans hi0 (Nat.le_of_eq hps.symm))))⟩
end
section
variable {prog:Program} {w:World} {A:Around} {E:Value->Shared->Prop}
theorem eh {s:Shared} {Q:Option Value->Shared->Prop} {P:Fin->Shared->Prop} (hh:A.handled=none) (h:∀h',(∀b o,s.heap.get? b=some o->h'.get? b=some o)->Q none {s with heap:=h'}) :
  wpAny (model prog w) A.in1 (do
    let e <-newExc (Value.type "StopIteration") []
    raiseNew e) P (fun e s'=>wpAny (model prog w) A (do
     let b <-isInstance e (Value.type "StopIteration")
     if b=true then pure none else throw e) Q E s') s:=by
 refine wpAny_bind ?_
 simp only[newExc,newTuple]
 refine wpAny_bind (wpAny_newObj_type ?_ (by size_fits))
 refine wpAny_bind (m:=firstArgMember _ _) (wpAny_of_eq (a:=Value.none) (by first | rfl | (simp only[firstArgMember];rfl)) ?_)
 refine wpAny_newObj_type ?_ (by size_fits)
 simp only[raiseNew]
 refine wpAny_bind (wpAny_handled ?_)
 rw[show A.in1.handled=none from hh]
 refine wpAny_bind (wpAny_pure (wpAny_throw ?_))
 refine wpAny_bind (wpAny_isInstance (T:="StopIteration") (b:=true) ⟨_,Heap.get?_push_size _ rfl,rfl⟩ isSubtype_stop ?_)
 exact wpAny_pure (h _ fun b o e=>Heap.get?_push_of_some _ (Heap.get?_push_of_some _ e))
theorem m5 {s:Shared} {I a:Addr} {es:Array (Int×Value)} {ep:Nat} {t:SetTable} {vs:List Value} {tup:Option Addr} {Q:Option Value->Shared->Prop} (hh:A.handled=none) (hf:t.fits es.size=true) (st:SetSt w I a es ep t vs tup vs.length s.heap)
  (hQ:∀h',Heap.ExtBut I s.heap h'->Q none {s with heap:=h'}):wpAny (model prog w) A (pyNext (.ref I)) Q E s:=by
 obtain ⟨oa,hoa,hca,hda,oI,first,hoI,hcI,hdI,hm⟩:=st
 have hT:s.TypeIs (.ref I) "set_iterator":=⟨oI,hoI,hcI⟩
 unfold pyNext
 refine wpAny_bind (wpAny_attempt (wpAny_callSpecial?_slot (name:=Str.ofString "__next__") hT aQ (wpAny_call_entry aQ hT cc ?_ (cr _))))
 refine wpAny_bind (wpAny_pure ?_)
 refine wpAny_bind (wpAny_fieldsOf hoI hdI ?_)
 dsimp only
 refine wpAny_bind (wpAny_bind (wpAny_setState_of hoa hda hf (wpAny_pure ?_)))
 dsimp only
 rw[if_neg (by simp)]
 rcases hm with ⟨hb,f⟩ | ⟨hb,b,order,ob,n,hob,hdb,hlt⟩ | ⟨hb,hled,hsz,slot,hsl⟩
 ·dsimp only
  refine wpAny_bind (cf hoa hda hf (.inl hb) (fun _=>?_) fun z=>by rw[hb] at z;cases z)
  rw[Int.toNat_natCast,List.length_map,Array.length_toList,getElem?_neg (pickOrder (w.params.setOrder a ep) es) _ (Nat.lt_irrefl _)]
  dsimp only[Option.map_none]
  refine wpAny_bind (wpAny_setField hoI hdI (by simp) ?_)
  exact eh hh fun h' hk=>hQ h' fun b o hb e=>hk b o ((Heap.SameBut.update s.heap I _).extBut b o hb e)
 ·dsimp only
  refine wpAny_bind (wpAny_seqItems hob hdb ?_)
  dsimp only
  have hvl:(order.filterMap fun j=>es[j]?.map (·.2)).length=order.length:=by
   clear hob hdb hdI hQ
   induction order with
   |nil=>rfl
   |cons j r ih=>
    have hj:=hlt j (List.mem_cons_self ..)
    rw[List.filterMap_cons,getElem?_pos es j hj]
    simp[ih fun k hk=>hlt k (List.mem_cons_of_mem _ hk)]
  have hpl:(((order.map fun (j:Nat)=>rawInt j).toArray)[(((order.filterMap fun j=>es[j]?.map (·.2)).length:Nat):Int).toNat]?)=none:=by
   simp[hvl]
  rw[hpl]
  dsimp only
  refine wpAny_bind (wpAny_setField hoI hdI (by simp) ?_)
  have d1:=Obj.data_mapFields hdI (·.setIfInBounds 0 (rawInt 0))
  have g1:=Heap.get?_update_self (Obj.mapFields (·.setIfInBounds 0 (rawInt 0))) hoI (Obj.isFreed_of_fields d1)
  refine wpAny_bind (wpAny_setField (s:={s with heap:=_}) g1 d1 (by simp) ?_)
  exact eh hh fun h' hk=>hQ h' fun b o hb e=>hk b o (((Heap.SameBut.update s.heap I _).trans (Heap.SameBut.update _ I _)).extBut b o hb e)
 ·dsimp only
  refine wpAny_bind (cf hoa hda hf (.inr ⟨hled,hsz⟩) (fun z=>by rw[hb] at z;cases z) fun _=>?_)
  rw[Int.toNat_natCast,hsl,List.length_map,Array.length_toList,getElem?_neg es _ (Nat.lt_irrefl _)]
  dsimp only
  refine wpAny_bind (wpAny_setField hoI hdI (by simp) ?_)
  exact eh hh fun h' hk=>hQ h' fun b o hb e=>hk b o ((Heap.SameBut.update s.heap I _).extBut b o hb e)
theorem SetSt.at {I a:Addr} {es:Array (Int×Value)} {ep:Nat} {t:SetTable} {vs:List Value} {tup:Option Addr} {i:Nat} {h h':Heap} (st:SetSt w I a es ep t vs tup i h)
  (k:∀b o,b=I\/b=a\/tup=some b->h.get? b=some o->h'.get? b=some o):SetSt w I a es ep t vs tup i h':=by
 obtain ⟨oa,hoa,hca,hda,oI,first,hoI,hcI,hdI,hm⟩:=st
 refine⟨oa,k a oa (.inr (.inl rfl)) hoa,hca,hda,oI,first,k I oI (.inl rfl) hoI,hcI,hdI,?_⟩
 rcases hm with ⟨hb,f⟩ | ⟨hb,b,order,ob,n,hob,hdb,hlt⟩ | ⟨hb,hled,hsz,slot,hsl⟩
 ·exact .txt hb f
 ·exact .drw hb b order ob n (k b ob (.inr (.inr rfl)) hob) hdb hlt
 ·exact .one hb hled hsz slot hsl
noncomputable def ri:Option Addr->List Addr
 |none=>[]
 |some b=>[b]
theorem mX {I a:Addr} {es:Array (Int×Value)} {ep:Nat} {t:SetTable} {vs:List Value} {tup:Option Addr} (hh:A.handled=none) (hIa:a≠I) (hIt:∀b,tup=some b->b≠I) (hf:t.fits es.size=true) :
  Walks prog w A I (I::a::ri tup) [I] vs.length (fun i v=>vs[i]?=some v) (fun i h=>SetSt w I a es ep t vs tup i h) where
 sub:=fun b hb=>by rw[List.mem_singleton.mp hb];exact List.mem_cons_self ..
 frame:=fun i h h' st hk=>st.at fun b o hb e=>hk b (by
  rcases hb with rfl | rfl | hb
  ·exact List.mem_cons_self ..
  ·exact List.mem_cons_of_mem _ (List.mem_cons_self ..)
  ·subst hb;simp[ri]) o e
 item:=fun i s Q E hi st hQ=>kO hIa hIt hf st (List.getElem?_eq_getElem hi) fun h' hs st'=>hQ _ h' s.toks (List.getElem?_eq_getElem hi) st' fun b o hb e=>hs.extBut b o (fun z=>hb (by simp[z])) e
 done:=fun s Q E st hQ=>m5 hh hf st fun h' hx=>hQ h' s.toks fun b o hb e=>hx b o (fun z=>hb (by simp[z])) e
 self:=fun i s Q E st q=>by
  obtain ⟨_,_,_,_,oI,first,hoI,hcI,hdI,hm⟩:=st
  have hT:s.TypeIs (.ref I) "set_iterator":=⟨oI,hoI,hcI⟩
  refine wpAny_pyIter_slot hT cn (wpAny_call_entry cn hT eJ ?_ (fc _))
  show wpAny _ _ (ret (.ref I)) _ _ s
  exact wpAny_pure ⟨_,rfl,"set_iterator",_,hT,aQ.lookup,q⟩
theorem kT {s:Shared} {a:Addr} {ks:List Str} {Q:Value->Shared->Prop} (hS:SetX prog w s.heap a (!w.params.followText "set-order") ks)
  (h:∀I es ep t vs tup h' d,t.fits es.size=true->SetSt w I a es ep t vs tup 0 h'->a≠I->(∀b,tup=some b->b≠I)->s.heap.get? I=none->(∀b,tup=some b->s.heap.get? b=none)->vs.length < scanBound->
   (∃ks',StrsAre vs ks'/\ks'.Perm ks)->(∀b o,s.heap.get? b=some o->h'.get? b=some o)->Q (.ref I) {s with heap:=h',drawn:=d}):wpAny (model prog w) A (pyIter (.ref a)) Q E s:=by
 obtain ⟨o,es,ep,t,ho,hex,hd,hel,hb,hf,hled,hpl,hks,hnd⟩:=hS
 have hT:s.TypeIs (.ref a) "set":=⟨o,ho,hex.1⟩
 have hslen:es.size<=sizeLine:=fits_of_scanBound hb
 have hlt:a < s.heap.objs.size:=Heap.lt_size ho
 refine wpAny_pyIter_slot hT PySem.F.slot_set_iter (wpAny_call_entry PySem.F.slot_set_iter hT gy ?_ (PySem.F.args_set_iter_1 _))
 unfold Builtin.«frozenset.__iter__» Builtin.Frozenset.slot0 slotArgs
 simp only[List.isEmpty_nil,Bool.not_true,Bool.false_eq_true,↓reduceIte,bind_assoc,List.length_nil,bne_self_eq_false]
 unfold Builtin.Frozenset.addrOf Builtin.Frozenset.sizeOf
 refine wpAny_bind (wpAny_pure ?_)
 try dsimp only
 refine wpAny_bind (wpAny_pure ?_)
 refine wpAny_bind (wpAny_bind (wpAny_setEntries_of ho hd hf (wpAny_pure ?_)))
 refine wpAny_bind ?_
 unfold setDrawn
 refine wpAny_bind (wpAny_setState_of ho hd hf ?_)
 dsimp only
 refine wpAny_bind (eM (wpAny_pure ?_))
 have mk:∀(first:Value) (h₁:Heap) (d:Drawn) (vs:List Value) (tup:Option Addr),(∀b o,s.heap.get? b=some o->h₁.get? b=some o)->(∃ks',StrsAre vs ks'/\ks'.Perm ks)->(∀b,tup=some b->b≠h₁.objs.size)->(∀b,tup=some b->s.heap.get? b=none)->s.heap.objs.size<=h₁.objs.size->
   (∀h':Heap,(∀b o,h₁.get? b=some o->h'.get? b=some o)->
    SetM w a es ep t 0 h' vs tup first)->
   wpAny (model prog w) A.in1 (do
    let e <-setEpoch a
    let f <-newFields "set_iterator" [first,rawInt 0,.ref a,rawInt es.size,rawInt e]
    ret f) (fun fin s'=>∃r,fin=.done (.ret r)/\∃T' r',s'.TypeIs r T'/\typeLookup (.type T') "__next__"=pure (some r')/\Q r s') E {s with heap:=h₁,drawn:=d}:=by
  intro first h₁ d vs tup hk hvs hne hnew hsz hmode
  refine wpAny_bind (wpAny_setEpoch_of (s:={s with heap:=h₁,drawn:=d}) (hk a o ho) hd hf ?_)
  unfold newFields
  refine wpAny_bind (wpAny_newObj_type ?_ (by show _<=_;simp[sizeLine_eq]))
  refine wpAny_pure ⟨_,rfl,"set_iterator",_,⟨_,Heap.get?_push_size _ rfl,rfl⟩,aQ.lookup,?_⟩
  have hvl:vs.length < scanBound:=by
   refine x1_2 hvs fun ks' h1 h2=>?_;clear hvs
   have e1:=congrArg List.length h1.strs
   have e2:=congrArg List.length hks.strs
   have e3:=h2.length_eq
   simp at e1 e2
   exact e1.trans (e3.trans e2.symm)▸hb
  refine h h₁.objs.size es ep t vs tup _ d hf ⟨o,Heap.get?_push_of_some _ (hk a o ho),hex.1,hd,_,first,Heap.get?_push_size _ rfl,rfl,by simp[rawInt],hmode _ fun b o e=>Heap.get?_push_of_some _ e⟩ (Nat.ne_of_lt (Nat.lt_of_lt_of_le hlt hsz)) hne ?_ hnew hvl hvs fun b o e=>Heap.get?_push_of_some _ (hk b o e)
  cases e:s.heap.get? h₁.objs.size with
  |none=>rfl
  |some o'=>exact absurd (Heap.lt_size (hk _ _ e)) (Nat.lt_irrefl _)
 have hself:∃ks',StrsAre (es.toList.map (·.2)) ks'/\ks'.Perm ks:=⟨ks,hks,List.Perm.refl _⟩
 cases hbt:w.params.followText "set-order" with
 |true=>
  simp only[Bool.not_true,Bool.false_and,Bool.false_eq_true,if_false]
  refine wpAny_bind (wpAny_pure ?_)
  refine mk (rawInt 0) s.heap s.drawn ((pickOrder (w.params.setOrder a ep) es).toList.map (·.2)) none (fun _ _ e=>e) ?_ (fun b e=>by cases e) (fun b e=>by cases e) (Nat.le_refl _) fun h' _=>.txt hbt 0
  exact cL hks ((ng _ es).map _)
 |false=>
  simp only[Bool.not_false,Bool.true_and]
  by_cases hs1:es.size > 1
  ·have hp0:t.plain=false:=hpl (by exact fun hg=>lN [(es.size)] 0x12048108461 rfl hs1 (Nat.le_of_eq hg))
   refine wpAny_ite_split (fun _=>?_) fun hn=>absurd (show (!t.plain&&decide (es.size > 1))=true by rw[hp0];simpa using hs1) hn
   refine wpAny_bind (cm es.size (List.range es.size) (by simp) fun order d hp=>?_)
   have hol:order.length=es.size:=by rw[hp.length_eq];simp
   have horl:∀j∈order,j < es.size:=fun j hj=>by simpa using hp.mem_iff.mp hj
   refine wpAny_bind (wpAny_newTuple ?_ (by rw[List.length_map,hol];exact hslen))
   refine mk (.ref s.heap.objs.size) _ d (order.filterMap fun j=>es[j]?.map (·.2)) (some s.heap.objs.size) (fun b o e=>Heap.get?_push_of_some _ e) ?_ (fun b e=>by cases Option.some.inj e;rw[Heap.size_push];exact Nat.ne_of_lt (Nat.lt_succ_self _))
    (fun b e=>by cases Option.some.inj e;cases e2:s.heap.get? s.heap.objs.size with | none=>rfl | some o'=>exact absurd (Heap.lt_size e2) (Nat.lt_irrefl _)) (by rw[Heap.size_push];exact Nat.le_succ _)
    fun h' hk'=>.drw hbt _ order _ _ (hk' _ _ (Heap.get?_push_size _ rfl)) rfl horl
   refine cL hks ?_
   have h1:=(hp.filterMap fun j=>es[j]?.map (·.2))
   have h2:(List.range es.size).filterMap (fun j=>es[j]?.map (·.2))=es.toList.map (·.2):=by
    have:=congrArg (List.map (·.2)) (filterMap_getElem?_range es)
    rw[List.map_filterMap] at this
    exact this
   rw[h2] at h1
   exact h1
  ·refine wpAny_ite_split (fun hy=>?_) fun _=>wpAny_bind (wpAny_pure ?_)
   ·exfalso
    have hy':(!t.plain&&decide (es.size > 1))=true:=hy
    rw[Bool.and_eq_true,decide_eq_true_eq] at hy'
    exact hs1 hy'.2
   have hps:t.place.size=es.size:=by
    simp only[SetTable.fits,Bool.and_eq_true,beq_iff_eq] at hf
    exact hf.1
   refine mk (rawInt 0) s.heap s.drawn (es.toList.map (·.2)) none (fun _ _ e=>e) hself (fun b e=>by cases e) (fun b e=>by cases e) (Nat.le_refl _) fun h' _=>.one hbt (by rw[hled,hbt];rfl) (Nat.le_of_not_lt hs1) 0 (lJ _ (hps▸Nat.le_of_not_lt hs1))
end
section
variable {prog:Program} {w:World} {E:Value->Shared->Prop}
theorem qe {A:Around} {s:Shared} {r:Addr} {Q:Bool->Shared->Prop} (hT:s.TypeIs (.ref r) "set") (h:Q false s):wpAny (model prog w) A (Builtin.List.listLengthHint (.ref r)) Q E s:=by
 unfold Builtin.List.listLengthHint
 refine wpAny_bind (wpAny_specialOf hT PySem.F.slot_set_len.lookup ?_)
 generalize hid:("set.__len__":String)=id0
 wp_delta
 rw[show splitId id0=some ("set","__len__") from by subst hid;decide +kernel]
 subst hid
 refine wpAny_bind (wpAny_isInstance (T:="set") (b:=true) hT (by rw[isSubtype_type];kernel_rfl) ?_)
 refine wpAny_ite_split (fun hab=>absurd hab (by decide)) (fun _=>?_)
 refine wpAny_ite_split (fun _=>?_) (fun hab=>absurd (by decide +kernel) hab)
 refine wpAny_bind (wpAny_typeOf hT ?_)
 exact wpAny_pure h
theorem j6 {A:Around} {s:Shared} {a:Addr} {ks:List Str} {R:List Value->Shared->Prop} (hh:A.handled=none) (hS:SetX prog w s.heap a (!w.params.followText "set-order") ks)
  (h:∀(h':Heap) (tk:Nat) (d:Drawn) (vs:List Value) (ks':List Str),(∀b o,s.heap.get? b=some o->h'.get? b=some o)->StrsAre vs ks'->ks'.Perm ks->R vs {s with heap:=h',toks:=tk,drawn:=d}) :
  wpAny (model prog w) A (collect (.ref a)) R E s:=by
 have hT:s.TypeIs (.ref a) "set":=let ⟨o,_,_,_,ho,hex,_,_,_,_,_,_,_,_⟩:=hS;⟨o,ho,hex.1⟩
 have hlt:a < s.heap.objs.size:=let ⟨o,_,_,_,ho,_,_,_,_,_,_,_,_,_⟩:=hS;Heap.lt_size ho
 unfold collect
 refine wpAny_bind (wpAny_runValue (codeAny_builtin entry_proto_collect' ?_))
 rw[Around.under_plainId PySem.F.plain_proto_collect _]
 show wpAny _ A.in1 (newList [] >>=fun l=>again (.builtin "list.__iadd__" ⟨[l,.ref a],[]⟩)) _ _ s
 refine wpAny_bind (wpAny_newObj_type ?_)
 refine wpAny_pure ⟨plainId_quiet PySem.F.plain_list_iadd _,codeAny_builtin entry_list_iadd' ?_⟩
 rw[Around.under_plainId PySem.F.plain_list_iadd _]
 have hk₀:∀b o,s.heap.get? b=some o->(s.heap.push {cls:=.type "list",data:=.seq ([]:List Value).toArray}).get? b=some o:=fun b o e=>Heap.get?_push_of_some _ e
 have hS₁:(s.heap.push {cls:=.type "list",data:=.seq ([]:List Value).toArray}).get? s.heap.objs.size=some {cls:=.type "list",data:=.seq #[]}:=Heap.get?_push_size _ rfl
 show wpAny _ A.in1 (Builtin.List.listExtendWith (.ref s.heap.objs.size) (.ref a) (.ref s.heap.objs.size)) _ _ _
 unfold Builtin.List.listExtendWith
 have hX:=hS.at (h':=s.heap.push {cls:=.type "list",data:=.seq ([]:List Value).toArray}) fun o e=>hk₀ a o e
 have hTp:Shared.TypeIs {s with heap:=s.heap.push {cls:=.type "list",data:=.seq ([]:List Value).toArray}} (.ref a) "set":=let ⟨o,_,_,_,ho,hex,_,_,_,_,_,_,_,_⟩:=hX;⟨o,ho,hex.1⟩
 refine wpAny_bind (wpAny_typeOf (T:="set") hTp ?_)
 have h1:Builtin.List.listSameRef (.ref s.heap.objs.size) (.ref a)=false:=by simp[Builtin.List.listSameRef,Nat.ne_of_gt hlt]
 have h2:(Value.type "set" == Value.type "list")=false:=by decide
 have h3:(Value.type "set" == Value.type "tuple")=false:=by decide
 simp only[h1,h2,h3,Bool.or_false,Bool.false_eq_true,if_false]
 refine wpAny_bind (kT hX fun I es ep t vs tup h₂ d hf st hIa hIt hIn htn hvl hvs hk₂=>?_)
 have hS₂:h₂.get? s.heap.objs.size=some {cls:=.type "list",data:=.seq #[]}:=hk₂ _ _ hS₁
 have hX₂:=hX.at (h':=h₂) fun o e=>hk₂ a o e
 have hT₂:Shared.TypeIs {s with heap:=h₂,drawn:=d} (.ref a) "set":=let ⟨o,_,_,_,ho,hex,_,_,_,_,_,_,_,_⟩:=hX₂;⟨o,ho,hex.1⟩
 have hSI:s.heap.objs.size≠I:=fun e=>by rw[<-e,hS₁] at hIn;cases hIn
 have hSf:s.heap.objs.size∉(I::a::ri tup):=by
  intro hm
  rcases List.mem_cons.mp hm with e | hm
  ·exact hSI e
  rcases List.mem_cons.mp hm with e | hm
  ·exact absurd e (Nat.ne_of_gt hlt)
  ·cases tup with
   |none=>cases hm
   |some b=>
    have e:=List.mem_singleton.mp hm
    have:=htn b rfl
    rw[<-e,hS₁] at this;cases this
 have W:=mX (prog:=prog) (w:=w) (A:=A.in1) (vs:=vs) (ep:=ep) (by show A.handled=_;exact hh) hIa hIt hf
 have key:∀(R':Result->Shared->Prop),(∀(h':Heap) (tk:Nat) (vs':List Value) (ks':List Str) (o':Obj) (c:Nat),(∀b o,s.heap.get? b=some o->h'.get? b=some o)->StrsAre vs' ks'->ks'.Perm ks->h'.get? s.heap.objs.size=some o'->o'.data=.seq vs'.toArray c->
    R' (.ok (.ret (.ref s.heap.objs.size))) {s with heap:=h',toks:=tk,drawn:=d})->
   ∀(h₃:Heap) (tk:Nat) (c₁:Nat),SetSt w I a es ep t vs tup 0 h₃->(∀b o,b≠s.heap.objs.size->h₂.get? b=some o->h₃.get? b=some o)->h₃.get? s.heap.objs.size=some {cls:=.type "list",data:=.seq #[] c₁}->
   codeAny (model prog w) A (.builtin "list.extend.loop" ⟨[.ref s.heap.objs.size,.ref I,.ref s.heap.objs.size],[]⟩) R' {s with heap:=h₃,toks:=tk,drawn:=d}:=by
  intro R' hR h₃ tk c₁ st₃ hk₃ hS₃
  refine codeAny_extend_loopS W.toS (Nat.le_of_lt (Nat.lt_of_lt_of_le hvl (by rw[sizeLine_eq];decide))) s.heap.objs.size hSf (.ref s.heap.objs.size) vs.length 0 _ #[] c₁ rfl (Nat.zero_le _) st₃ hS₃ (ItemsOf.nil _) fun s' acc' c' hm hS' hacc=>?_
  have e:=Moved.eq_with hm
  rw[e]
  refine x1_2 hvs fun ks' hks' hpk=>?_;clear hvs
  have hacc':acc'.toList=vs:=by
   apply List.ext_getElem?
   intro j
   by_cases hj:j < vs.length
   ·have hj':j < acc'.size:=by rw[hacc.1];exact hj
    have:=hacc.2 j acc'[j] (getElem?_pos acc' j hj')
    rw[this,Array.getElem?_toList]
    exact getElem?_pos acc' j hj'
   ·rw[List.getElem?_eq_none (l:=acc'.toList) (by rw[Array.length_toList,hacc.1];exact Nat.le_of_not_lt hj),List.getElem?_eq_none (l:=vs) (by exact Nat.le_of_not_lt hj)]
  refine hR s'.heap s'.toks vs ks' _ c' (fun b o e=>?_) hks' hpk hS' (by rw[<-hacc',Array.toArray_toList])
  refine hm.heap b o (fun hmem=>?_) (hk₃ b o (Nat.ne_of_lt (Heap.lt_size e)) (hk₂ b o (hk₀ b o e)))
  rcases List.mem_cons.mp hmem with e' | hmem
  ·exact absurd (Heap.lt_size e) (by rw[e'];exact Nat.lt_irrefl _)
  ·have e2:=List.mem_singleton.mp hmem
   have:=hk₀ b o e
   rw[e2,hIn] at this;cases this
 have done:∀(h':Heap) (tk:Nat) (vs':List Value) (ks':List Str) (o':Obj) (c:Nat),(∀b o,s.heap.get? b=some o->h'.get? b=some o)->StrsAre vs' ks'->ks'.Perm ks->h'.get? s.heap.objs.size=some o'->o'.data=.seq vs'.toArray c->
   wpAny (model prog w) A (do
    let o <-load s.heap.objs.size
    match o.data with
     |.seq xs _=>pure xs.toList
     |_=>unsupported "internal:collect") R E {s with heap:=h',toks:=tk,drawn:=d}:=by
  intro h' tk vs' ks' o' c hk hs hp ho hd
  refine wpAny_bind (wpAny_load ho ?_)
  rw[hd]
  exact wpAny_pure (by rw[List.toList_toArray];exact h h' tk d vs' ks' hk hs hp)
 refine wpAny_bind (wpAny_holding (qe hT₂ ?_))
 refine wpAny_ite_split (fun _=>?_) fun _=>wpAny_pure ⟨plainId_quiet PySem.F.plain_extend_loop _,key _ (fun h' tk vs' ks' o' c hk hs hp ho hd=>done h' tk vs' ks' o' c hk hs hp ho hd) h₂ s.toks 0 st (fun _ _ _ e=>e) hS₂⟩
 refine wpAny_bind (wpAny_rule ?_)
 refine wpAny_bind ?_
 show wpAny _ _ (updateSeq s.heap.objs.size (·.push .none) >>=fun _=>updateSeq s.heap.objs.size (·.pop)) _ _ _
 refine wpAny_bind (wpAny_updateSeq hS₂ rfl ?_)
 have hS₄:=Heap.get?_update_self (Obj.mapSeq (·.push Value.none)) hS₂ rfl
 refine wpAny_updateSeq (hz:=by seq_fits) hS₄ rfl ?_
 have hS₅:=Heap.get?_update_self (Obj.mapSeq (·.pop)) hS₄ rfl
 have hoth:∀b o,b≠s.heap.objs.size->h₂.get? b=some o->((h₂.update s.heap.objs.size (Obj.mapSeq (·.push Value.none))).update s.heap.objs.size (Obj.mapSeq (·.pop))).get? b=some o:=fun b o hb e=>
  (Heap.get?_update_other _ _ (Ne.symm hb)).trans ((Heap.get?_update_other _ _ (Ne.symm hb)).trans e)
 refine wpAny_pure ⟨plainId_quiet PySem.F.plain_extend_loop _,key _ (fun h' tk vs' ks' o' c hk hs hp ho hd=>done h' tk vs' ks' o' c hk hs hp ho hd) _ s.toks _ (st.at fun b o hb e=>hoth b o (fun z=>hSf ?_) e) hoth hS₅⟩
 rcases hb with hb | hb | hb
 ·rw[<-z,hb];exact List.mem_cons_self ..
 ·rw[<-z,hb];exact List.mem_cons_of_mem _ (List.mem_cons_self ..)
 ·rw[<-z,hb];simp[ri]
end
set_option tactic.hygienic true
abbrev im (l:List Str):V:=.tup (l.map .str)
theorem VRels.invD {aS:Addr} {h:Heap} {xs:List V} {w:Value} {ws:List Value} (x:VRels aS h xs (w::ws)):∃v vs,xs=v::vs/\VRel aS h v w/\VRels aS h vs ws:=by
 cases x with
 |cons a b=>exact⟨_,_,rfl,a,b⟩
theorem VRels.perm {aS:Addr} {h:Heap} {ws out:List Value} (p:ws.Perm out):∀{xs:List V},VRels aS h xs ws->∃ys,ys.Perm xs/\VRels aS h ys out:=by
 induction p with
 |nil=>exact fun r=>⟨_,.refl _,r⟩
 |cons w _ ih=>
  intro xs r
  obtain ⟨v,vs,rfl,a,b⟩:=r.invD
  refine x1_2 (ih b) fun ys p r=>?_
  exact⟨v::ys,p.cons v,.cons a r⟩
 |swap w u l=>
  intro xs r
  obtain ⟨v,vs,rfl,a,b⟩:=r.invD
  obtain ⟨v',vs,rfl,a',b⟩:=b.invD
  exact⟨v'::v::vs,.swap _ _ _,.cons a' (.cons a b)⟩
 |trans _ _ ih1 ih2=>
  intro xs r
  refine x1_2 (ih1 r) fun ys p1 r=>?_
  refine x1_2 (ih2 r) fun zs p2 r=>?_
  exact⟨zs,p2.trans p1,r⟩
theorem VRels.all {aS:Addr} {h:Heap} {xs:List V} {ws:List Value} (r:VRels aS h xs ws):∀w∈ws,∃x,x∈xs/\VRel aS h x w:=
 r.ind (P:=fun xs ws=>∀w∈ws,∃x,x∈xs/\VRel aS h x w) (fun _ h=>nomatch h) fun v w vs ws a _ ih u hu=>by
  rcases List.mem_cons.mp hu with rfl | hu
  ·exact⟨v,.head _,a⟩
  ·refine x1_2 (ih u hu) fun x h1 h2=>?_
   exact⟨x,.tail _ h1,h2⟩
theorem dJ {α β:Type} (f:α->β) {zs ys:List β} (p:zs.Perm ys):∀{ks:List α},zs=ks.map f->∃ks':List α,ys=ks'.map f/\ks'.Perm ks:=by
 induction p with
 |nil=>exact fun {ks} e=>⟨ks,e,.refl _⟩
 |cons x _ ih=>
  intro ks e
  obtain ⟨k,ks0,rfl,rfl,e2⟩:=List.map_eq_cons_iff.mp e.symm
  obtain ⟨l,rfl,pl⟩:=ih e2.symm
  exact⟨k::l,rfl,pl.cons k⟩
 |swap x y l=>
  intro ks e
  obtain ⟨k,ks0,rfl,rfl,e2⟩:=List.map_eq_cons_iff.mp e.symm
  obtain ⟨k2,ks1,rfl,rfl,rfl⟩:=List.map_eq_cons_iff.mp e2
  exact⟨k2::k::ks1,rfl,.swap _ _ _⟩
 |trans _ _ ih1 ih2=>
  intro ks e
  refine x1_2 (ih1 e) fun l e1 p1=>?_
  refine x1_2 (ih2 e1) fun l' e2 p2=>?_
  exact⟨l',e2,p2.trans p1⟩
inductive TupAt (h:Heap):Value->Prop
 |mk (a:Addr) (x:Str) (t:Tok) (us:List Value) (ss:List Str) (ht:h.IsTuple a (.str x t::us).toArray) (hs:StrsAre us ss):TupAt h (.ref a)
section
variable {prog:Program} {w:World} {A:Around} {E:Value->Shared->Prop} {s:Shared}
theorem kW {a b:Str} {t u:Tok} {f:Bool} {Q:Bool->Shared->Prop} (h:Q (decide (a.cps.toList < b.cps.toList)) s):wpAny (model prog w) A (oneLt' f (.str a t) (.str b u)) Q E s:=by
 cases f
 ·rw[oneLt'_eq]
  simp only[Bool.false_eq_true,if_false]
  refine wpAny_bind (wpAny_richCompare_same (typeIs_str s a t) (typeIs_str s b u) slot_str_lt (call_str_lt ⟨by simp,wpAny_truthy_bool h⟩))
 ·exact oneLt_str h
theorem oF {f:(Value×Value)×Nat->Option Bool×Unit->Sem (ForInStep (Option Bool×Unit))}
  (hs:∀(x y:Str) (t u:Tok) (i:Nat) (R:ForInStep (Option Bool×Unit)->Shared->Prop),R (.yield (none,())) s->(∀b,R (.done (some b,())) s)->wpAny (model prog w) A (f ((.str x t,.str y u),i) (none,())) R E s) :
  ∀{us vs:List Value} {xs ys:List Str} (i:Nat) {R:Option Bool×Unit->Shared->Prop},StrsAre us xs->StrsAre vs ys->(∀o,R (o,()) s)->
   wpAny (model prog w) A (forIn ((us.zip vs).zipIdx i) (none,()) f) R E s:=by
 intro us vs xs ys i R h1
 induction h1 generalizing vs ys i R with
 |nil=>intro h2 q;exact wpAny_pure (q _)
 |cons x t h1 ih=>
  intro h2 q
  cases h2 with
  |nil=>exact wpAny_pure (q _)
  |cons y u h2=>
   rw[List.zip_cons_cons,List.zipIdx_cons,List.forIn_cons]
   exact wpAny_bind (hs x y t u i _ (ih (i+1) h2 q) fun b=>wpAny_pure (q _))
theorem nM {x y:Value} {Q:Bool->Shared->Prop} (h1:TupAt s.heap x) (h2:TupAt s.heap y) (q:∀c,Q c s):wpAny (model prog w) A (keyLt' (tuples' true) x y) Q E s:=by
 obtain ⟨a,x,t,us,ss,⟨o,ho,hc,n,hd⟩,hs⟩:=h1
 obtain ⟨b,y,u,vs,ss2,⟨o2,ho2,hc2,n2,hd2⟩,hs2⟩:=h2
 refine wpAny_bind (listItems_at ho hd (wpAny_bind (listItems_at ho2 hd2 ?_)))
 rw[List.toList_toArray,List.toList_toArray]
 refine wpAny_bind (oF (fun x y t u i R r1 r2=>?_) 0 (.cons x t hs) (.cons y u hs2) fun o=>?_)
 ·refine wpAny_bind (eqBool_str ?_)
  cases (x == y) with
  |true=>exact wpAny_pure r1
  |false=>exact wpAny_bind (kW (wpAny_pure (r2 _)))
 ·cases o with
  |none=>exact wpAny_pure (q _)
  |some c=>exact wpAny_pure (q c)
theorem gn:∀{vs:List Value} {Q:List (Option Value)->Shared->Prop},(∀v∈vs,TupAt s.heap v)->(∀(us:List Value) (ss:List Str),StrsAre us ss->us.length=vs.length->Q (us.map some) s)->wpAny (model prog w) A (vs.mapM firstOfTuple') Q E s
 |[],Q,_,q=>wpAny_pure (q [] [] .nil rfl)
 |v::vs,Q,h,q=>by
  rw[List.mapM_cons]
  obtain ⟨a,x,t,us,ss,⟨o,ho,hc,n,hd⟩,hs⟩:=h _ (.head _)
  refine wpAny_bind (wpAny_bind (wpAny_typeOf (T:="tuple") ⟨o,ho,hc⟩ ?_))
  show wpAny _ _ (if (Value.type "tuple" != Value.type "tuple")=true then pure none else _) _ E s
  rw[if_neg (by simp)]
  refine wpAny_bind (listItems_at ho hd (wpAny_pure ?_))
  refine wpAny_bind (gn (fun v hv=>h v (.tail _ hv)) fun us' ss' hu hl=>wpAny_pure ?_)
  exact q (.str x t::us') (x::ss') (.cons x t hu) (congrArg (·+1) hl)
theorem pU {vs:List Value} {Q:SortKind->Shared->Prop} (h:∀v∈vs,TupAt s.heap v) (h2:2<=vs.length) (q:Q (tuples' true) s):wpAny (model prog w) A (keyKind' vs.toArray) Q E s:=by
 rw[keyKind'_eq,List.mapM_toArray]
 refine wpAny_bind (wpAny_map (gn h fun us ss hu hl=>?_))
 have h1:((us.map some).toArray.all fun x:Option Value=>x.isSome)=true:=by simp
 rw[if_pos h1]
 refine wpAny_bind (wpAny_rule ?_)
 have h3:Array.filterMap id (us.map some).toArray=us.toArray:=by
  rw[List.filterMap_toArray];simp
 rw[h3,oneTypeOnly'_eq,List.mapM_toArray,mapM_typeOf_strs hu]
 cases hu with
 |nil=>rw[<-hl] at h2;exact absurd h2 (by decide)
 |cons x t hu=>
  rename_i us ss
  have h5:((List.map (fun _=>Value.type "str") (Value.str x t::us)).toArray.all fun x=>x == Value.type "str")=true:=by
   simp only[List.all_toArray,List.all_map,List.all_eq_true]
   intro _ _
   rfl
  have h6:(List.map (fun _=>Value.type "str") (Value.str x t::us)).toArray[0]?=some (Value.type "str"):=by simp
  simp only[map_pure,pure_bind]
  rw[h6]
  simp only[h5,if_true,pure_bind]
  exact wpAny_pure q
end
section
variable {C:Cx} {p:Program} {sc:Scope} {k:Nat}
theorem df {aS:Addr} {h:Heap}:∀{ys:List Str} {ws:List Value},VRels aS h (ys.map .str) ws->StrsAre ws ys
 |[],_,r=>by rw[r.inv0];exact .nil
 |y::ys,_,r=>by
  obtain ⟨w,ws,rfl,h1,r2⟩:=r.invC
  obtain ⟨t,rfl⟩:=h1.invStr
  exact .cons y t (df r2)
theorem cy {aS:Addr} {h:Heap} {ys:List Str} {ws:List Value} (x:StrsAre ws ys):VRels aS h (ys.map .str) ws:=by
 induction x with
 |nil=>exact .nil
 |cons y t r ih=>exact .cons (.str y t) ih
inductive SK (xs:List V):Prop
 |s (h:∀x∈xs,∃y,x=.str y):SK xs
 |t (h:∀x∈xs,∃y l,x=im (y::l)):SK xs
 |i (h:∀x∈xs,∃n,x=.int n):SK xs
theorem SK.strs (ks:List Str):SK (ks.map .str):=.s fun x hx=>(List.mem_map.mp hx).elim fun k h=>⟨k,h.2.symm⟩
theorem eY:∀vs:List Value,(∀v∈vs,∃n t,v=.int n t)->∃ns,IntsAre vs ns
 |[],_=>⟨[],.nil⟩
 |v::r,h=>by
  obtain ⟨n,t,rfl⟩:=h v (.head _)
  refine x1_1 (eY r fun w hw=>h w (.tail _ hw)) fun ns hn=>?_
  exact⟨n::ns,.cons n t hn⟩
theorem b7 {A:Around} {s:Shared} {σ:ae} {r:Value} {Q:V->ae->Prop} {P:Value->Shared->Prop} {E:Value->Shared->Prop} {xs:List V} (ao:AOk C A k) (R:RelG C σ s)
  (hcol:∀R':List Value->Shared->Prop,(∀(h':Heap) (tk:Nat) (d:Drawn) (vs:List Value) (xs':List V),(∀b o,s.heap.get? b=some o->h'.get? b=some o)->s.heap.objs.size<=h'.objs.size->VRels C.aS h' xs' vs->xs'.Perm xs->R' vs {s with heap:=h',toks:=tk,drawn:=d})->
   wpAny (model C.prog C.w) A.in1 (collect r) R' E s) (hk:SK xs) (hz:xs.length<=16777216)
  (q:∀ys:List V,ys.Perm xs->bq ys σ Q) (hP:r8 C σ s Q P):wpAny (model C.prog C.w) A (PySem.call (.builtin "sorted") [r]) P E s:=by
 refine call_function_entry kind_sorted plain_sorted entry_sorted (args_sorted1 _) ?_
 unfold Builtin.«sorted»
 refine wpAny_bind (m:=checkCount "sorted" 1 1 _) (wpAny_pure ?_)
 refine wpAny_bind (hcol _ fun h' tk d vs xs' hold hsz hv hp=>?_)
 have hvl:vs.length=xs.length:=by rw[<-hp.length_eq,hv.length]
 have hz':vs.length<=16777216:=by rw[hvl];exact hz
 refine wpAny_bind (wpAny_newList ?_ (by rw[sizeLine_eq];exact hz'))
 have hoL:(h'.push (seqObj "list" vs.toArray 0)).get? h'.objs.size=some (seqObj "list" vs.toArray 0):=Heap.get?_push_size _ rfl
 have fin:∀out:List Value,out.Perm vs->P (.ref h'.objs.size) {s with heap:=sortedHeap (h'.push (seqObj "list" vs.toArray 0)) h'.objs.size vs out.toArray,toks:=tk,drawn:=d}:=fun out hpo=>by
  refine x1_1 (sortedHeap_at (out:=out.toArray) hoL) fun e he=>?_
  have hk1:∀b o,h'.get? b=some o->(sortedHeap (h'.push (seqObj "list" vs.toArray 0)) h'.objs.size vs out.toArray).get? b=some o:=fun b o eb=>by
   have hb:=Heap.lt_size eb
   rw[sortedHeap_old (Nat.ne_of_lt hb) (by rw[Heap.size_push];exact Nat.lt_succ_of_lt hb)]
   exact Heap.get?_push_of_some _ eb
  have hk2:=fun b o eb=>hk1 b o (hold b o eb)
  have hn:s.heap.get? h'.objs.size=Option.none:=ai hsz
  refine x1_2 (hv.perm hpo.symm) fun ys hy hr=>?_
  have hyx:=hy.trans hp
  exact hP (.ref h'.objs.size) (.ref h'.objs.size) (am σ h'.objs.size (.list ys)) _ (.ref _)
   ((R.draw d).add (tk:=tk) (s:={s with drawn:=d}) hk2 hn ⟨by rw[hyx.length_eq];exact hz,out,⟨e,he⟩,hr.keep fun b o eb _=>hk1 b o eb⟩) (.add hk2 (Nat.le_trans hsz (Nat.le_of_lt (Heap.lt_size he))) hsz) (q ys hyx _ (R.freshNone hn))
 refine wpAny_bind (wpAny_holding (wpAny_call_entry slot_list_sort ⟨_,hoL,rfl⟩ entry_list_sort ?_ (args_list_sort _)))
 rcases hk with hk | hk | hk
 ·have hS:∀v∈vs,∃a t,v=.str a t:=fun v hv'=>by
   refine x1_2 (hv.all v hv') fun x hx hr=>?_
   obtain ⟨y,rfl⟩:=hk x (hp.mem_iff.mp hx)
   exact⟨y,hr.invStr⟩
  refine fH (kd:=oneType') hoL hz' (fun h2 s' _ Q q=>?_) (fun s' _ x hx y hy E C hC=>?_) fun out hpo=>⟨_,rfl,wpAny_pure ⟨_,rfl,fin out hpo⟩⟩
  ·have:=strsAre_map vs hS
   match vs,h2,this with
   |v₁::v₂::rest,_,this=>rw[keyKind_strs this];exact wpAny_pure q
  ·obtain ⟨a,t,rfl⟩:=hS x hx
   obtain ⟨b,u,rfl⟩:=hS y hy
   rw[keyLt'_oneType]
   exact oneLt_str (hC _)
 ·have hT:∀s':Shared,(∀b o,b≠h'.objs.size->(h'.push (seqObj "list" vs.toArray 0)).get? b=some o->s'.heap.get? b=some o)->∀v∈vs,TupAt s'.heap v:=fun s' hk' v hv'=>by
   refine x1_2 (hv.all v hv') fun x hx hr=>?_
   obtain ⟨y,l,rfl⟩:=hk x (hp.mem_iff.mp hx)
   have hr:=hr.keep (h':=s'.heap) fun b o eb _=>hk' b o (Nat.ne_of_lt (Heap.lt_size eb)) (Heap.get?_push_of_some _ eb)
   cases hr with
   |tup ht hs=>
    obtain ⟨w,ws,rfl,h1,r2⟩:=hs.invC
    obtain ⟨t,rfl⟩:=h1.invStr
    exact⟨_,y,t,ws,l,ht,df r2⟩
  exact fH (kd:=tuples' true) hoL hz' (fun h2 s' hk' Q q=>pU (hT s' hk') h2 q) (fun s' hk' x hx y hy E C hC=>nM (hT s' hk' x hx) (hT s' hk' y hy) hC) fun out hpo=>⟨_,rfl,wpAny_pure ⟨_,rfl,fin out hpo⟩⟩
 ·have hS:∀v∈vs,∃n t,v=.int n t:=fun v hv'=>by
   refine x1_2 (hv.all v hv') fun x hx hr=>?_
   obtain ⟨y,rfl⟩:=hk x (hp.mem_iff.mp hx)
   exact⟨y,hr.invInt⟩
  refine fH (kd:=oneType') hoL hz' (fun h2 s' _ Q q=>?_) (fun s' _ x hx y hy E C hC=>?_) fun out hpo=>⟨_,rfl,wpAny_pure ⟨_,rfl,fin out hpo⟩⟩
  ·refine x1_1 (eY vs hS) fun ns this=>?_
   match vs,h2,this with
   |v₁::v₂::rest,_,this=>rw[keyKind_ints this];exact wpAny_pure q
  ·obtain ⟨a,t,rfl⟩:=hS x hx
   obtain ⟨b,u,rfl⟩:=hS y hy
   rw[keyLt'_oneType]
   exact oneLt_int (hC _)
theorem cV:bootBuiltins (Str.ofString "sorted")=some (.builtin "sorted"):=by decide +kernel
theorem uF:bootBuiltins (Str.ofString "set")=some (.type "set"):=by decide +kernel
theorem PRel.keys {aS:Addr} {h:Heap} {a:List (Str×V)} {b:List (Str×Value)} (x:PRel aS h a b):a.map (·.1)=b.map (·.1):=
 x.ind (P:=fun a b=>a.map (·.1)=b.map (·.1)) rfl fun _ _ _ _ _ _ _ ih=>by rw[List.map_cons,List.map_cons,ih]
theorem g8 {s:Shared} {kvs:List (Str×V)} {kws:List (Str×Value)} {vs:List Value} (h2:PRel C.aS s.heap kvs kws) (hl:vs.length=kws.length) (hv:∀(j:Nat) (v:Value),vs[j]?=some v->∃k x,kws[j]?=some (k,x)/\(PySem.strKind C.prog C.w).is k v=true):StrsAre vs (kvs.map (·.1)):=by
 rw[h2.keys]
 clear h2
 induction kws generalizing vs with
 |nil=>have:vs=[]:=List.length_eq_zero_iff.mp (by simpa using hl);subst this;exact .nil
 |cons q kws ih=>
  match vs,hl with
  |v::vs,hl=>
   refine x2_2 (hv 0 v rfl) fun ky x e1 e2=>?_
   simp at e1
   subst e1
   obtain ⟨t,rfl⟩:=Value.isStrOf_shape e2
   exact .cons ky t (ih (by simpa using hl) fun j v e=>hv (j+1) v (by simpa using e))
noncomputable def newP (ks:List Str) (σ:ae) (Q:V->ae->Prop):Prop:=∀ks':List Str,ks'.Perm ks->bq (ks'.map .str) σ Q
theorem newP.any {ks:List Str} {σ:ae} {Q:V->ae->Prop} (h:newP ks σ Q):∀ys:List V,ys.Perm (ks.map .str)->bq ys σ Q:=fun ys p=>by
 obtain ⟨ks',rfl,p'⟩:=dJ V.str p.symm rfl
 exact h ks' p'
noncomputable def fG:aK:=fun vs σ Q=>onR vs fun a=>onO (σ a) (fun kvs=>newP (kvs.map (·.1)) σ Q) fun xs=>SK xs/\∀ys:List V,ys.Perm xs->bq ys σ Q
theorem nk (O:C.Ok) (hpl:C.held=Option.none):OpN C k (fun ws=>PySem.call (.builtin "sorted") ws) fG:=by
 intro A s σ vs ws Q P E ao R hv q hP
 replace q:=onR.elim q
 obtain ⟨a,rfl,q⟩:=q
 ·obtain ⟨wa,rfl,h1⟩:=hv.inv1
  obtain rfl:=h1.invRef
  rcases onO.elim q with ⟨kvs,ep,hx,q⟩ | ⟨xs,hx,hk,q⟩;rotate_left
  ·obtain ⟨hz,us,h2,h3⟩:=R.view _ _ hx
   have hlen:=h3.length
   refine b7 ao R (fun R' hR=>av (collect_list h2.isList ?_ (by rw[<-hlen,sizeLine_eq];exact hz))) hk hz q hP
   intro hsz
   have hold:∀b o,s.heap.get? b=some o->((s.heap.push (seqObj "list" #[] 0)).update s.heap.objs.size (Obj.mapSeq fun x=>x++us.toArray)).get? b=some o:=fun b o e=>by
    rw[Heap.get?_update_ne _ _ _ _ (Nat.ne_of_lt (Heap.lt_size e))]
    exact Heap.get?_push_of_some _ e
   exact hR _ s.toks s.drawn us xs hold hsz (h3.keep fun b o e _=>hold b o e) (List.Perm.refl _)
  ·obtain ⟨hz,kws,h2,h3⟩:=R.view _ _ hx
   have hlen:=h3.length
   refine b7 (xs:=(kvs.map (·.1)).map .str) ao R (fun R' hR=>av (kdu_collect (kdl_dict (knd:=PySem.strKind C.prog C.w) (kvs:=kws) (ep:=ep) (O.noMods (R.apart a (by rw[hx];simp)))) (by show A.handled=_;exact ao.none hpl) h2 (kdl_size (by omega)) fun h' tk acc hk hacc=>?_)) (.strs _) (by simpa using hz) q.any hP
   intro hsz
   exact hR h' tk s.drawn acc.toList _ hk hsz (cy (g8 h3 (by rw[Array.length_toList];exact hacc.1) fun j v e=>hacc.2 j v (by rw[<-Array.getElem?_toList];exact e))) (List.Perm.refl _)
theorem uR (G:Gl C p) (hpl:C.held=Option.none) {np pos:Pos} {es:List Expr} {L:LT} (hn:sc.names.lookup (Str.ofString "sorted")=some .globalImplicit) (hl:HL C sc k es L) (hp:ah es=true):HE C sc k (.Call (.Name (Str.ofString "sorted") np) es [] pos) (bv fG L):=
 HE.builtin G.ok (nk G.ok hpl) hn (G.free _ (by decide)) (G.blt cV (by decide)) rfl hl hp
@[reducible] noncomputable def lw (T:ET):ET:=fun m σ Q=>T m σ fun v σ₁=>∃a kvs ep,v=.ref a/\σ₁ a=some (.dict kvs ep)/\newP (kvs.map (·.1)) σ₁ Q
theorem HE.sortedKeys (G:Gl C p) (hpl:C.held=Option.none) {np pos ap cp:Pos} {o:Expr} {T:ET} (hn:sc.names.lookup (Str.ofString "sorted")=some .globalImplicit) (ho:HE C sc k o T)
  (hbase:∀env,attributeBase o (Str.ofString "keys") env (eval o env)=eval o env) (hline:(ap.endLine == cp.line)=true) :
  HE C sc k (.Call (.Name (Str.ofString "sorted") np) [.Call (.Attribute o (Str.ofString "keys") ap) [] [] cp] [] pos) (lw T):=by
 refine⟨?_⟩;intro env A s m σ Q P E en ao R F q hP
 have O:=G.ok
 refine wpAny_Call_NameR (Calls.Name_function_global en.k (en.of hn) (Calls.loadGlobal_builtin (mg:=C.mg) (mb:=C.mb) (by rw[en.globals];exact O.g.keeps R.base) (G.free _ (by decide)) (by rw[en.builtins];exact O.b.keeps R.base) (G.blt cV (by decide)) ?_) rfl)
 refine Calls.callWith_builtin (aA rfl) (au rfl ?_)
 show wpAny _ A (spliced ((false,eval (.Call (.Attribute o (Str.ofString "keys") ap) [] [] cp) env)::backTo pos (starEach [] env))) _ E s
 refine Calls.spliced_cons ?_
 refine wpAny_Call_method (T:="dict") (id:="dict.keys") (hbase env) rfl hline _root_.PySem.F.plainAttrs_dict _root_.PySem.F.slot_dict_keys _root_.PySem.F.type_dict_keys ?_
 refine ho.run env A s m σ _ _ E en ao R F q fun v w σ₁ s₁ hv R₁ S₁ q₁=>?_
 obtain ⟨a,kvs,ep,rfl,hx,q₁⟩:=q₁
 obtain rfl:=hv.invRef
 obtain ⟨hz,kws,h1,h2⟩:=R₁.view _ _ hx
 refine⟨h1.dictOf.typeIs,h1.dictOf.mapOf.noDict,?_⟩
 show wpAny _ _ (callWith cp (.builtin "dict.keys") [.ref a] [] []) _ E s₁
 refine method_meetsIn _root_.PySem.F.slot_dict_keys _root_.PySem.F.entry_dict_keys rfl (PySem.evalArgs_none ⟨rfl,h1.dictOf.typeIs,_root_.PySem.F.args_dict_keys_1 _,_,kdl_meets_keys (PySem.strKind C.prog C.w) a (O.noMods (R₁.apart a (by rw[hx];simp))),⟨kws,h1.dictOf⟩,?_⟩)
 refine Calls.spliced_nil ?_
 show wpAny _ A (PySem.call (.builtin "sorted") [.ref s₁.heap.objs.size]) P E _
 have hl:=h2.length
 have R₂:RelG C σ₁ {s₁ with heap:=s₁.heap.push {cls:=.type "dict_keys",data:=.fields #[.ref a]}}:=R₁.grow (tk:=s₁.toks) ay
 refine b7 (xs:=(kvs.map (·.1)).map .str) ao R₂ (fun R' hR=>av (kdu_collect (kdl_keys (knd:=PySem.strKind C.prog C.w) (kvs:=kws) (ep:=ep) (r:=s₁.heap.objs.size) (d:=a)) (by show A.handled=_;exact ao.none hpl)
  ⟨⟨_,Heap.get?_push_size _ rfl,rfl,rfl⟩,h1.push _⟩ (kdl_size (by omega)) fun h' tk acc hk hacc=>?_)) (.strs _) (by simpa using hz) q₁.any fun v w σ' s' hv' R' S' q'=>hP v w σ' s' hv' R' ((S₁.trans .push).trans S') q'
 intro hsz
 exact hR h' tk s₁.drawn acc.toList _ hk hsz (cy (g8 h2 (by rw[Array.length_toList];exact hacc.1) fun j v e=>hacc.2 j v (by rw[<-Array.getElem?_toList];exact e))) (List.Perm.refl _)
@[reducible] noncomputable def jU (T:ET):ET:=fun m σ Q=>T m σ fun v σ₁=>∃a ks,v=.ref a/\σ₁ a=some (.list (List.map V.str ks))/\ks.length<=4000/\∀us:List Str,us.Nodup->(∀z,z∈us↔z∈ks)->bq (us.map .str) σ₁ Q
theorem r5 (G:Gl C p) (hpl:C.held=Option.none) {np pos np2 cp:Pos} {o:Expr} {T:ET} (hn:sc.names.lookup (Str.ofString "sorted")=some .globalImplicit) (hn2:sc.names.lookup (Str.ofString "set")=some .globalImplicit) (ho:HE C sc k o T) (hs:cg o=true) :
  HE C sc k (.Call (.Name (Str.ofString "sorted") np) [.Call (.Name (Str.ofString "set") np2) [o] [] cp] [] pos) (jU T):=by
 refine⟨?_⟩;intro env A s m σ Q P E en ao R F q hP
 have O:=G.ok
 refine wpAny_Call_NameR (Calls.Name_function_global en.k (en.of hn) (Calls.loadGlobal_builtin (mg:=C.mg) (mb:=C.mb) (by rw[en.globals];exact O.g.keeps R.base) (G.free _ (by decide)) (by rw[en.builtins];exact O.b.keeps R.base) (G.blt cV (by decide)) ?_) rfl)
 refine Calls.callWith_builtin (aA rfl) (au rfl ?_)
 show wpAny _ A (spliced ((false,eval (.Call (.Name (Str.ofString "set") np2) [o] [] cp) env)::backTo pos (starEach [] env))) _ E s
 refine Calls.spliced_cons ?_
 refine wpAny_Call_NameR (Calls.Name_function_global en.k (en.of hn2) (Calls.loadGlobal_builtin (mg:=C.mg) (mb:=C.mb) (by rw[en.globals];exact O.g.keeps R.base) (G.free _ (by decide)) (by rw[en.builtins];exact O.b.keeps R.base) (G.blt uF (by decide)) ?_) rfl)
 have hpa:ah [o]=true:=by simp[ah,hs]
 refine PySem.callWith_type (aA hpa) (au hpa ?_)
 rw[aM hs]
 show wpAny _ A (spliced ((false,eval o env)::backTo cp (starEach [] env))) _ E s
 refine Calls.spliced_cons (ho.run env A s m σ _ _ E en ao R F q fun v w σ₁ s₁ hv R₁ S₁ q₁=>?_)
 obtain ⟨a,ks,rfl,hx,hk4,q₁⟩:=q₁
 obtain rfl:=hv.invRef
 obtain ⟨hz,us,h1,h2⟩:=R₁.view _ _ hx
 refine Calls.spliced_nil ?_
 show wpAny _ A (PySem.call (.type "set") [.ref a]) _ E s₁
 refine av (n7 (ss:=ks) (ao.none hpl) h1.isList (by rw[List.toList_toArray];exact df h2) (Nat.lt_of_le_of_lt (Nat.succ_le_succ hk4) (by decide)) fun h₂ tk₂ ks₂ hX hm hk₂=>?_)
 intro hsz₂
 refine Calls.spliced_nil ?_
 show wpAny _ A (PySem.call (.builtin "sorted") [.ref s₁.heap.objs.size]) P E _
 have R₂:RelG C σ₁ {s₁ with heap:=h₂,toks:=tk₂}:=R₁.grow (tk:=tk₂) hk₂
 have hnd:ks₂.Nodup:=let ⟨_,_,_,_,_,_,_,_,_,_,_,_,_,hn⟩:=hX;hn
 have hl2:ks₂.length<=4000:=Nat.le_trans (hnd.length_le_of_subset fun z hz=>(hm z).mp hz) hk4
 refine b7 (xs:=ks₂.map .str) ao R₂ (fun R' hR=>av (j6 (by show A.handled=_;exact ao.none hpl) hX fun h' tk d vs ks' hk hs hp=>?_)) (.strs _) (by rw[List.length_map];exact Nat.le_trans hl2 (by decide)) (newP.any fun ks' p=>q₁ ks' (p.nodup_iff.mpr hnd) fun z=>p.mem_iff.trans (hm z))
  fun v w σ' s' hv' R' S' q'=>hP v w σ' s' hv' R' ((S₁.trans (.grow hk₂ hsz₂)).trans S') q'
 intro hsz
 exact hR h' tk d vs _ hk hsz (cy hs) (hp.map _)
end
set_option tactic.hygienic false
section
variable {C:Cx} {p:Program} {sc:Scope} {k:Nat}
noncomputable def iv:aK:=fun vs σ Q=>onR vs fun a=>∃kvs ep,σ a=some (.dict kvs ep)/\ld kvs σ Q
theorem pF (O:C.Ok):OpN C k (fun ws=>PySem.call (.type "dict") ws) iv:=by
 intro A s σ vs ws Q P E ao R hv q hP
 replace q:=onR.elim q
 obtain ⟨a,rfl,q⟩:=q
 ·obtain ⟨wa,rfl,h1⟩:=hv.inv1
  obtain rfl:=h1.invRef
  refine x2_2 q fun kvs ep hx q=>?_
  obtain ⟨hz,kws,h1,h2⟩:=R.view _ _ hx
  have hl:=h2.length
  refine av (kt_call_dict (knd:=PySem.strKind C.prog C.w) (O.noMods (R.apart a (by rw[hx];simp))) h1.dictOf (by rw[sizeLine_eq];omega) fun h' hd' hs'=>?_)
  intro hsz
  refine x1_1 hd'.dictAt fun ep' hat=>?_
  have hn:=aH s.heap
  have hk:∀b o,s.heap.get? b=some o->h'.get? b=some o:=fun b o e=>hs'.extBut b o (Nat.ne_of_lt (Heap.lt_size e)) (Heap.get?_push_of_some _ e)
  exact hP _ _ (am σ s.heap.objs.size (.dict kvs ep')) _ (.ref _) (R.add (tk:=s.toks) hk hn ⟨hz,kws,hat,h2.keep fun b o e _=>hk b o e⟩) (.add hk hsz (Nat.le_refl _)) (q _ ep' (R.freshNone hn))
noncomputable def l4:aK:=fun vs σ Q=>onRS vs fun a x=>∃kvs ep,σ a=some (.dict kvs ep)/\Q ((aT kvs x).getD .none) σ
theorem tZ (O:C.Ok):OpN C k (fun ws=>PySem.call (.builtin "dict.get") ws) l4:=by
 intro A s σ vs ws Q P E ao R hv q hP
 replace q:=onRS.elim q
 obtain ⟨a,x,rfl,q⟩:=q
 ·obtain ⟨wa,wb,rfl,h1,h2⟩:=hv.inv2
  obtain rfl:=h1.invRef;cases h2 with | str _ t=>
  refine x2_2 q fun kvs ep hx q=>?_
  obtain ⟨hz,kws,h1,h2⟩:=R.view _ _ hx
  refine call_meetsIn _root_.PySem.F.slot_dict_get h1.dictOf.typeIs _root_.PySem.F.entry_dict_get (_root_.PySem.F.args_dict_get_2 _ _) (meets_dict_get (PySem.strKind C.prog C.w) a (eD x t) (O.noMods (R.apart a (by rw[hx];simp)))) ⟨_,h1.dictOf.mapOf,?_⟩
  cases hg:aT kvs x with
  |none=>
   rw[hg] at q
   have e:valueAt kws x=Option.none:=by
    have:(valueAt kws x).isSome=false:=by rw[<-h2.none (k:=x),hg];rfl
    cases e:valueAt kws x with
    |none=>rfl
    |some _=>rw[e] at this;cases this
   show P ((valueAt kws x).getD .none) _
   rw[e]
   exact hP _ _ σ _ .none (R.tok _) Step.refl q
  |some v=>
   rw[hg] at q
   refine x1_2 (h2.find hg) fun w e1 e2=>?_
   show P ((valueAt kws x).getD .none) _
   rw[e1]
   exact hP _ _ σ _ e2 (R.tok _) Step.refl q
theorem HE.getD (G:Gl C p) {o:Expr} {apos pos:Pos} {es:List Expr} {To:ET} {L:LT} (ho:HE C sc k o To) (hl:HL C sc k es L) (hp:ah es=true)
  (hbase:∀env,attributeBase o (Str.ofString "get") env (eval o env)=eval o env) (hline:(apos.endLine == pos.line)=true) (hfew:es.length < 30):HE C sc k (.Call (.Attribute o (Str.ofString "get") apos) es [] pos) (co fz l4 To L):=
 bY ee F.plainAttrs_dict F.slot_dict_get F.type_dict_get (tZ G.ok) ho hl hp hbase hline hfew
noncomputable def fX:O2:=fun i o σ Q=>isS i fun x=>isR o fun a=>∃kvs ep,σ a=some (.dict kvs ep)/\Q (.bool (!(aT kvs x).isSome)) σ
theorem nv (O:C.Ok):Op2 C k (compareOp .NotIn) fX:=by
 intro A s σ a b wa wb Q P E ao R va vb q hP
 replace q:=isS.elim q
 obtain ⟨x,rfl,q⟩:=q
 replace q:=isR.elim q
 obtain ⟨a,rfl,q⟩:=q
 ·obtain ⟨_,rfl⟩:=va.invStr;obtain rfl:=vb.invRef
  refine x2_2 q fun kvs ep hx q=>?_
  obtain ⟨_,kws,h1,h2⟩:=R.view _ _ hx
  refine wpAny_notIn_of (knd:=PySem.strKind C.prog C.w) (eD x _) (O.noMods (R.apart a (by rw[hx];simp))) h1.dictOf.mapOf ?_
  rw[<-h2.none]
  exact hP _ _ σ _ (.bool _) (R.tok _) Step.refl q
noncomputable def si:V->Bool
 |.none=>true
 |_=>false
noncomputable def onBN (b:V) (F:Bool->Prop) (G:Prop):Prop:=match b with | .none=>G | .bool y=>F y | _=>False
theorem onBN.elim {b:V} {F:Bool->Prop} {G:Prop} (h:onBN b F G):(b=.none/\G)\/∃y,b=.bool y/\F y:=by
 cases b<;>first | exact .inl ⟨rfl,h⟩ | exact .inr ⟨_,rfl,h⟩ | exact False.elim h
noncomputable def rk:O2:=fun a b σ Q=>onBN b (fun y=>isB a fun x=>Q (.bool (x != y)) σ) (Q (.bool (!si a)) σ)
theorem pH {h:Heap} {v:V} {w:Value} (hv:VRel C.aS h v w):(w == Value.none)=si v:=by
 cases hv<;>rfl
theorem wA:Op2 C k (compareOp .IsNot) rk:=by
 intro A s σ a b wa wb Q P E ao R va vb q hP
 rcases onBN.elim q with ⟨rfl,q⟩ | ⟨y,rfl,q⟩
 ·obtain rfl:=vb.invNone
  exact isnot_none_gen (by rw[pH va];exact hP _ _ σ s (.bool _) R Step.refl q)
 ·obtain ⟨x,rfl,q⟩:=isB.elim q
  obtain rfl:=va.invBool;obtain rfl:=vb.invBool
  exact isnot_bool (hP _ _ σ s (.bool _) R Step.refl q)
noncomputable def iw:aK:=fun vs σ Q=>onR vs fun a=>∃xs,σ a=some (.list xs)/\Q .none (am σ a (.list []))
theorem pG:OpN C k (fun ws=>PySem.call (.builtin "list.clear") ws) iw:=by
 intro A s σ vs ws Q P E ao R hv q hP
 replace q:=onR.elim q
 obtain ⟨a,rfl,q⟩:=q
 ·obtain ⟨wa,rfl,h1⟩:=hv.inv1
  obtain rfl:=h1.invRef
  refine x1_2 q fun xs hx q=>?_
  obtain ⟨hz,us,⟨n,h3⟩,h4⟩:=R.view _ _ hx
  have e:=h4.length
  refine call_meets _root_.PySem.F.slot_list_clear ⟨_,h3,rfl⟩ _root_.PySem.F.entry_list_clear (_root_.PySem.F.args_list_clear_1 _) (_root_.PySem.AutoSeq1.list_clear_list_0 a us.toArray n (by rw[List.size_toArray,<-e,sizeLine_eq];exact hz)) ⟨h3,?_⟩
  have hs':=Heap.SameBut.update s.heap a (Obj.mapSeq fun _=>(#[]:Array Value))
  have kt:ar s.heap (s.heap.update a (Obj.mapSeq fun _=>#[])):=fun b o eb ht=>hs'.extBut b o (by rintro rfl;rw[h3] at eb;cases Option.some.inj eb;simp[d4] at ht) eb
  exact hP .none .none (am σ a (.list [])) _ .none (R.change (tk:=s.toks) hx hs' ⟨by simp,[],⟨_,get?_update_seq h3 (fun _=>#[])⟩,.nil⟩) (.change hx hs') q
theorem qJ {o:Expr} {apos pos:Pos} {es:List Expr} {To:ET} {L:LT} (ho:HE C sc k o To) (hl:HL C sc k es L) (hp:ah es=true)
  (hbase:∀env,attributeBase o (Str.ofString "clear") env (eval o env)=eval o env) (hline:(apos.endLine == pos.line)=true) (hfew:es.length < 30):HE C sc k (.Call (.Attribute o (Str.ofString "clear") apos) es [] pos) (co d7 iw To L):=
 bY gU F.plainAttrs_list F.slot_list_clear F.type_list_clear pG ho hl hp hbase hline hfew
@[reducible] noncomputable def sx (g:Tgt) (T:ET):ST:=fun m σ Q=>T m σ fun v σ'=>∃m',bG g v m=some m'/\Q .next m' σ'
theorem xV {elts:List Expr} {n:Nat} {p pos:Pos} {value:Expr} {g:Tgt} {loc:Bool} {T:ET} (ht:HT C sc k loc (.Tuple elts n p) g) (he:HE C sc k value T) (hs:∀env,EnvOk env sc->swapsWithSole [.Tuple elts n p] value pos.line env=pure false)
  (hw:∀env,EnvOk env sc->swappedStores [.Tuple elts n p] value env=pure Option.none):HS1 C sc k (.Assign [.Tuple elts n p] value pos) (sx g T):=by
 refine⟨?_⟩;intro env A s m σ Q P E en ao R F q hP
 refine Assign_Tuple (he.run env A s m σ _ _ E en ao R F q fun v w σ₁ s₁ hv R₁ S₁ q₁=>?_) (hs env en) (hw env en)
 refine x1_2 q₁ fun m' hm q₁=>?_
 exact ht.run env A s₁ m m' σ₁ v w _ _ en ao R₁ (F.step R S₁) hv hm fun s₂ R₂ F₂ S₂=>hP .next .next _ σ₁ s₂ .next R₂ F₂ ((S₁.own).trans (S₂.mono fun _ _ _ z=>z.imp id fun z=>z.2)) q₁
end
section
variable {m:aq} {σ:ae} {Q:V->ae->Prop} {R:Fl->aq->ae->Prop} {ns:List Int}
@[simp] theorem v7 {g:Tgt} {T:ET}:sx g T m σ R=T m σ fun v σ'=>∃m',bG g v m=some m'/\R .next m' σ':=rfl
@[simp] theorem u9 {T:ET}:lw T m σ Q=T m σ fun v σ₁=>∃a kvs ep,v=.ref a/\σ₁ a=some (.dict kvs ep)/\newP (kvs.map (·.1)) σ₁ Q:=rfl
@[simp] theorem sT {T:ET}:jU T m σ Q=T m σ fun v σ₁=>∃a ks,v=.ref a/\σ₁ a=some (.list (List.map V.str ks))/\ks.length<=4000/\∀us:List Str,us.Nodup->(∀z,z∈us↔z∈ks)->bq (us.map .str) σ₁ Q:=rfl
theorem bR {a:Addr} {kvs:List (Str×V)} {ep:Nat} (h:σ a=some (.dict kvs ep)) (q:ld kvs σ Q):iv [.ref a] σ Q:=⟨kvs,ep,h,q⟩
theorem qf {a:Addr} {kvs:List (Str×V)} {ep:Nat} {x:Str} (h:σ a=some (.dict kvs ep)) (q:Q ((aT kvs x).getD .none) σ):l4 [.ref a,.str x] σ Q:=⟨kvs,ep,h,q⟩
theorem kY {a:Addr} {kvs:List (Str×V)} {ep:Nat} {x:Str} (h:σ a=some (.dict kvs ep)) (q:Q (.bool (!(aT kvs x).isSome)) σ):fX (.str x) (.ref a) σ Q:=⟨kvs,ep,h,q⟩
theorem eU {a:Addr} {xs:List V} (h:σ a=some (.list xs)) (hk:SK xs) (q:∀ys:List V,ys.Perm xs->bq ys σ Q):fG [.ref a] σ Q:=by
 show onO (σ a) _ _
 rw[h]
 exact⟨hk,q⟩
end
noncomputable def vy (v:V):Prop:=v=.none\/∃y,v=.str y
inductive SameD (σ:ae):V->V->Prop
 |mk (p q:Addr) (k1 k2:List (Str×V)) (e1 e2:Nat) (hp:σ p=some (.dict k1 e1)) (hq:σ q=some (.dict k2 e2)) (hl:k1.length=k2.length) (hm:∀z∈k1,z∈k2) (hf:∀z∈k1,vy z.2):SameD σ (.ref p) (.ref q)
theorem dL:∀{U:List (Str×V)} {x:Str} {v w:V},(U.map (·.1)).Nodup->(x,v)∈U->(x,w)∈U->v=w
 |q::r,x,v,w,h,h1,h2=>by
  have hn:=List.nodup_cons.mp h
  rcases List.mem_cons.mp h1 with e1 | g1
  ·rcases List.mem_cons.mp h2 with e2 | g2
   ·rw[<-e1] at e2;cases e2;rfl
   ·subst e1;exact absurd (List.mem_map.mpr ⟨_,g2,rfl⟩) hn.1
  ·rcases List.mem_cons.mp h2 with e2 | g2
   ·subst e2;exact absurd (List.mem_map.mpr ⟨_,g1,rfl⟩) hn.1
   ·exact dL hn.2 g1 g2
section
variable {C:Cx} {sc:Scope} {k:Nat} {A:Around} {s:Shared} {σ:ae}
theorem hE {kvs:List (Str×V)} {w2:List (Str×Value)} (h2:PRel C.aS s.heap kvs w2) (hn:(kvs.map (·.1)).Nodup) {k1:List (Str×V)} {w1:List (Str×Value)} (x:PRel C.aS s.heap k1 w1):(∀z∈k1,z∈kvs)->(∀z∈k1,vy z.2)->KeqHits A s w2 w1 true:=by
 refine x.ind (P:=fun k1 w1=>(∀z∈k1,z∈kvs)->(∀z∈k1,vy z.2)->KeqHits A s w2 w1 true) (fun _ _=>.nil) fun k v w r r' hv _ ih hm hs=>?_
 have hk:=hm (k,v) (.head _)
 have ih:=ih (fun z hz=>hm z (.tail _ hz)) fun z hz=>hs z (.tail _ hz)
 refine x1_2 (dD (List.mem_map.mpr ⟨_,hk,rfl⟩)) fun v' g1 g2=>?_
 cases dL hn g2 hk
 refine x1_2 (h2.find g1) fun wy e1 e2=>?_
 rcases hs (k,v) (.head _) with e | ⟨y,e⟩
 ·cases e
  obtain rfl:=hv.invNone;obtain rfl:=e2.invNone
  exact .hit e1 (SeqAt.EqAt.same _) ih
 ·cases e
  obtain ⟨t,rfl⟩:=hv.invStr
  obtain ⟨u,rfl⟩:=e2.invStr
  have eq:=SeqAt.EqAt.str_str (A:=A) (s:=s) y t y u
  rw[beq_self_eq_true] at eq
  exact .hit e1 eq ih
theorem uA (O:C.Ok) (R:RelG C σ s) (hu:A.units < cLine) {a b:V} {wa wb:Value} (h:SameD σ a b) (va:VRel C.aS s.heap a wa) (vb:VRel C.aS s.heap b wb):Aq C A s wa wb true:=by
 obtain ⟨p,q,k1,k2,e1,e2,hp,hq,hl,hm,hf⟩:=h
 obtain rfl:=va.invRef;obtain rfl:=vb.invRef
 obtain ⟨_,ws,h1,h2⟩:=R.view _ _ hp
 obtain ⟨_,us,h3,h4⟩:=R.view _ _ hq
 have hn:(k2.map (·.1)).Nodup:=by rw[h4.keys];exact let ⟨_,_,_,_,_,_,_,_,hn⟩:=h3.dictOf;hn
 have n1:=O.noMods (R.apart p (by rw[hp];simp))
 have n2:=O.noMods (R.apart q (by rw[hq];simp))
 have el:(ws.length == us.length&&true)=true:=by rw[<-h2.length,<-h4.length,hl,beq_self_eq_true];rfl
 intro op E Q hop hQ
 rcases hop with rfl | rfl
 ·exact keq_eq n1 n2 h1.dictOf h3.dictOf hu (fun _=>hE h4 hn h2 hm hf) (by rw[el];exact hQ)
 ·exact keq_ne n1 n2 h1.dictOf h3.dictOf hu (fun _=>hE h4 hn h2 hm hf) (by rw[el];exact hQ)
noncomputable def tJ:O2:=fun a b σ Q=>SameD σ a b/\Q (.bool false) σ
theorem oE {A:Around} (ao:AOk C A k):A.in1.units < cLine:=by
 have hu:A.units+2 < cLine:=Nat.lt_of_le_of_lt (Nat.add_le_add (Nat.le_add_right _ _) (by decide)) ao.units
 exact Nat.lt_of_le_of_lt (Nat.le_succ _) hu
theorem ro (O:C.Ok):Op2 C k (compareOp .NotEq) tJ:=by
 intro A s σ a b wa wb Q P E ao R va vb q₀ hP
 exact uA O R (Nat.lt_of_le_of_lt (Nat.le_succ _) (oE ao)) q₀.1 va vb .NotEq E P (.inr rfl) (hP _ _ σ s (.bool false) R Step.refl q₀.2)
end
noncomputable def FrsOk (C:Cx) (σ:ae) (h:Heap) (fs:List Env):Prop:=∀x∈fs,x.scope.kind≠.module/\∃L,x.frame=some L/\C.hB.get? L=none/\σ L=none/\∃o es ep,h.get? L=some o/\o.data=.dict es ep
structure FOk (C:Cx) (A:Around) (env:Env) (σ:ae) (h:Heap):Prop where
 frames:∃outer,A.frames=some (env::outer)/\FrsOk C σ h outer/\∀x∈outer,∀L,x.frame=some L->¬dZ env L
 frame:env.frame=some env.locals
inductive FlyB (n:Nat) (σ:ae) (h:Heap) (e:Addr) (ok:Option Value->Prop) (vs:Array Value):Prop
 |mk (T:Addr) (oT:Obj) (ts:Array Value) (fl:Value) (h1:vs[1]?=some (.ref T)) (hn:n<=T) (hs:σ T=none) (hne:T≠e) (ho:h.get? T=some oT) (hd:oT.data=.fields ts) (h3:ts[3]?=some fl) (hk:ok (some fl)):FlyB n σ h e ok vs
inductive FlyTb (n:Nat) (σ:ae) (h:Heap) (e:Addr) (ok:Option Value->Prop) (vs:Array Value):Prop
 |inl (x:ok none/\vs[1]?=some .none):FlyTb n σ h e ok vs
 |inr (x:FlyB n σ h e ok vs):FlyTb n σ h e ok vs
inductive FlyO (C:Cx) (c:String) (n:Nat) (σ:ae) (h:Heap) (e:Addr) (ok:Option Value->Prop):Prop
 |mk (oe:Obj) (vs:Array Value) (Cl:Addr) (he:h.get? e=some oe) (hg:C.mg (Str.ofString c)=some (.ref Cl)) (hc:oe.cls=.ref Cl) (hd:oe.data=.fields vs) (h2:vs[2]?=some .none) (h2s:2 < vs.size) (tb:FlyTb n σ h e ok vs):FlyO C c n σ h e ok
structure Fly (C:Cx) (c:String) (n:Nat) (σ:ae) (h:Heap) (e:Addr) (ok:Option Value->Prop):Prop where
 obj:FlyO C c n σ h e ok
 new:n<=e
 sep:σ e=none
structure Moved (n:Nat) (σ:ae) (S:List Addr) (h h':Heap):Prop where
 size:h.objs.size<=h'.objs.size
 keep:∀b o,h.get? b=some o->(b < n\/σ b≠none\/∀vs,o.data≠.fields vs)->b∉S->h'.get? b=some o
 slots:∀b o,h.get? b=some o->b∈S->∃sl,h'.get? b=some {o with slots:=sl}
theorem Moved.trans {n:Nat} {σ:ae} {S:List Addr} {h₁ h₂ h₃:Heap} (x:Moved n σ S h₁ h₂) (y:Moved n σ S h₂ h₃):Moved n σ S h₁ h₃ where
 size:=Nat.le_trans x.size y.size
 keep:=fun b o e z q=>y.keep b o (x.keep b o e z q) z q
 slots:=fun b o e q=>by
  refine x1_1 (x.slots b o e q) fun sl h1=>?_
  refine x1_1 (y.slots b _ h1 q) fun sl' h2=>?_
  exact⟨sl',h2⟩
theorem Moved.refl {n:Nat} {σ:ae} {S:List Addr} {h:Heap}:Moved n σ S h h:=⟨Nat.le_refl _,fun _ _ e _ _=>e,fun _ o e _=>⟨o.slots,e⟩⟩
section
variable {C:Cx} {M:Model} {A:Around} {E:Value->Shared->Prop} {s:Shared} {env:Env} {σ:ae} {m:aq} {c:String} {n:Nat} {e:Addr} {ok:Option Value->Prop}
noncomputable def frs (env:Env) (outer:List Env):List Addr:=(env::outer).filterMap (·.frame)
theorem lv {outer:List Env} (hf:env.frame=some env.locals) (hk:env.scope.kind=.function) (F:FrameRel C env m σ s.heap) (ho:FrsOk C σ s.heap outer):s.heap.FunFrames C.hB (env::outer):=by
 obtain ⟨mm,⟨oL,es,ep,hoL,hdL,_⟩,_⟩:=F.ns
 refine⟨by rw[hk];decide,⟨_,oL,hf,F.baseL,hoL,fun vs q=>by rw[hdL] at q;cases q⟩,?_⟩
 clear F hoL hdL
 induction outer with
 |nil=>trivial
 |cons x r ih=>
  obtain ⟨h1,L,h2,h3,h4,o,es',ep',h5,h6⟩:=ho x (.head _)
  exact⟨h1,⟨L,o,h2,h3,h5,fun vs q=>by rw[h6] at q;cases q⟩,ih fun y hy=>ho y (.tail _ hy)⟩
theorem gZ {outer:List Env} {oe:Obj} {vs:Array Value} {Cl:Addr} {head:Value} {had:Bool} {Q:Unit->Shared->Prop} (hfr:A.frames=some (env::outer)) (hl:s.heap.FunFrames C.hB (env::outer)) (hf:env.frame=some env.locals)
  (he:s.heap.get? e=some oe) (hmg:C.mg (Str.ofString c)=some (.ref Cl)) (hcls:oe.cls=.ref Cl) (hd:oe.data=.fields vs) (h2:vs[2]?=some .none) (hn:n<=e) (hnz:n<=s.heap.objs.size) (hs:σ e=none) (hsT:σ s.heap.objs.size=none)
  (h:∀h',Fly C c n σ h' e (fun x=>x=some (rawInt env.locals))->Moved n σ (frs env outer) s.heap h'->Q () {s with heap:=h'}) :
  wpAny M A (do let a <-frameOf env;let pl <-entryPlaceOf env.locals had;let b <-EntryCells.newEntry head a .none (rawInt env.locals) .none pl;setField (.ref e) 1 b) Q E s:=by
 have hene:e∉frs env outer:=fun hm=>by
  obtain ⟨_,o,ho,hnf⟩:=hl.mem hm
  rw[he] at ho;cases Option.some.inj ho;exact hnf vs hd
 have h1sz:2 < vs.size:=(Array.getElem?_eq_some_iff.mp h2).1
 refine wpAny_bind (wpAny_frameOf_fun hfr hl hf fun h₁ hs₁=>?_)
 refine wpAny_bind (wpAny_entryPlaceOf fun pl hpl=>?_)
 unfold EntryCells.newEntry newFields
 refine wpAny_bind (wpAny_newObj_type ?_ (hpl.sizeOk5 _ _ _ _ _))
 generalize hot:({cls:=.type "traceback",dict:=none,data:=.fields ([head,.ref env.locals,.none,rawInt env.locals,.none]++(if pl.isEmpty then List.replicate 6 Value.none else pl)).toArray}:Obj)=ot
 have hdt:ot.data=.fields ([head,.ref env.locals,.none,rawInt env.locals,.none]++(if pl.isEmpty then List.replicate 6 Value.none else pl)).toArray:=by rw[<-hot]
 have he₁:h₁.get? e=some oe:=(hs₁.2.1 e hene).trans he
 have he₂:=Heap.get?_push_of_some (h:=h₁) ot he₁
 have hTe:h₁.objs.size≠e:=Nat.ne_of_gt (Heap.lt_size he₁)
 have hd₃:=Obj.data_mapFields hd (·.setIfInBounds 1 (Value.ref h₁.objs.size))
 refine wpAny_setField he₂ hd (by exact Nat.le_of_lt h1sz) (h _ ?_ ?_)
 ·have he₃:=Heap.get?_update_self (Obj.mapFields (·.setIfInBounds 1 (Value.ref h₁.objs.size))) he₂ (Obj.isFreed_of_fields hd₃)
  have hT₃:=(Heap.get?_update_other (h₁.push ot) (Obj.mapFields (·.setIfInBounds 1 (Value.ref h₁.objs.size))) (Ne.symm hTe)).trans (Heap.get?_push_size h₁ (by rw[<-hot];rfl))
  refine⟨⟨_,_,Cl,he₃,hmg,(Obj.cls_mapFields _ _).trans hcls,hd₃,by rw[Array.getElem?_setIfInBounds_ne (by decide)];exact h2,by rw[Array.size_setIfInBounds];exact h1sz,.inr ⟨h₁.objs.size,ot,_,rawInt env.locals,by rw[Array.getElem?_setIfInBounds_self_of_lt (by exact Nat.le_of_lt h1sz)],by rw[hs₁.1];exact hnz,by rw[hs₁.1];exact hsT,hTe,hT₃,hdt,by rfl,rfl⟩⟩,hn,hs⟩
 ·refine⟨?_,fun b o hb hz hq=>?_,fun b o hb hq=>?_⟩
  ·rw[Heap.size_after_update,Heap.size_push,hs₁.1];exact Nat.le_succ _
  ·have hbe:b≠e:=by
    rintro rfl
    rw[he] at hb;cases Option.some.inj hb
    rcases hz with z | z | z
    ·exact absurd hn (Nat.not_le.mpr z)
    ·exact z hs
    ·exact z vs hd
   rw[Heap.get?_update_other _ _ (Ne.symm hbe)]
   exact Heap.get?_push_of_some _ ((hs₁.2.1 b hq).trans hb)
  ·refine x1_1 (hs₁.2.2 b o hb) fun sl h3=>?_
   have hbe:b≠e:=fun q=>hene (q▸hq)
   exact⟨sl,by rw[Heap.get?_update_other _ _ (Ne.symm hbe)];exact Heap.get?_push_of_some _ h3⟩
theorem Fly.head {T:Addr} {oe oT:Obj} {vs ts:Array Value} {Cl:Addr} {h:Heap} {S:List Addr} (v:Value) (he:h.get? e=some oe) (hmg:C.mg (Str.ofString c)=some (.ref Cl)) (hcls:oe.cls=.ref Cl) (hd:oe.data=.fields vs) (h2:vs[2]?=some .none) (h2s:2 < vs.size)
  (h1:vs[1]?=some (.ref T)) (hT:n<=T) (hσ:σ T=none) (hTe:T≠e) (hoT:h.get? T=some oT) (hdT:oT.data=.fields ts) (h3:3 < ts.size) (hn:n<=e) (hs:σ e=none) (hTS:T∉S) :
  Fly C c n σ (h.update T (Obj.mapFields (·.setIfInBounds 3 v))) e (fun x=>x=some v)/\Moved n σ S h (h.update T (Obj.mapFields (·.setIfInBounds 3 v))):=by
 have other:∀b,b≠T->(h.update T (Obj.mapFields (·.setIfInBounds 3 v))).get? b=h.get? b:=fun b hb=>Heap.get?_update_other _ _ (Ne.symm hb)
 have hd₃:=Obj.data_mapFields hdT (·.setIfInBounds 3 v)
 have self:=Heap.get?_update_self (Obj.mapFields (·.setIfInBounds 3 v)) hoT (Obj.isFreed_of_fields hd₃)
 refine⟨⟨⟨oe,vs,Cl,(other e (Ne.symm hTe)).trans he,hmg,hcls,hd,h2,h2s,.inr ⟨T,_,_,v,h1,hT,hσ,hTe,self,hd₃,by rw[Array.getElem?_setIfInBounds_self_of_lt h3],rfl⟩⟩,hn,hs⟩,?_⟩
 refine⟨by rw[Heap.size_after_update];exact Nat.le_refl _,fun b o hb hz hq=>?_,fun b o hb hq=>⟨o.slots,(other b (fun q=>hTS (q▸hq))).trans hb⟩⟩
 refine (other b ?_).trans hb
 rintro rfl
 rw[hoT] at hb;cases Option.some.inj hb
 rcases hz with z | z | z
 ·exact absurd hT (Nat.not_le.mpr z)
 ·exact z hσ
 ·exact z ts hdT
theorem wC {outer:List Env} {Q:Unit->Shared->Prop} (hfr:A.frames=some (env::outer)) (hl:s.heap.FunFrames C.hB (env::outer)) (hf:env.frame=some env.locals) (hnz:n<=s.heap.objs.size) (hsT:σ s.heap.objs.size=none)
  (X:Fly C c n σ s.heap e (fun x=>x=none\/x=some .none\/x=some (rawInt env.locals)))
  (h:∀h',Fly C c n σ h' e (fun x=>x=some (rawInt env.locals))->Moved n σ (frs env outer) s.heap h'->Q () {s with heap:=h'}):wpAny M A (noteFrame (.ref e) env) Q E s:=by
 obtain ⟨⟨oe,vs,Cl,he,hmg,hcls,hd,h2,h2s,hT⟩,hn,hs⟩:=X
 unfold noteFrame
 simp only[hf]
 rcases hT with ⟨_,h1⟩ | ⟨T,oT,ts,fl,h1,hT,hσ,hTe,hoT,hdT,h3,hok⟩
 ·refine wpAny_bind (wpAny_field he hd h1 ?_)
  rw[if_neg (by decide)]
  exact gZ hfr hl hf he hmg hcls hd h2 hn hnz hs hsT h
 ·refine wpAny_bind (wpAny_field he hd h1 ?_)
  rw[if_pos (show (Value.ref T != Value.none)=true from by simp)]
  refine wpAny_bind (wpAny_field hoT hdT h3 ?_)
  have h3s:3 < ts.size:=(Array.getElem?_eq_some_iff.mp h3).1
  have hTS:T∉frs env outer:=fun hm=>by
   obtain ⟨_,o,ho,hnf⟩:=hl.mem hm
   rw[hoT] at ho;cases Option.some.inj ho;exact hnf ts hdT
  rcases hok with hok | hok | hok
  ·cases hok
  ·cases Option.some.inj hok
   rw[if_neg (show ¬((Value.none == rawInt env.locals)=true) from by simp[rawInt])]
   refine wpAny_bind (wpAny_setField hoT hdT h3s ?_)
   obtain ⟨⟨⟨oe',vs',Cl',he',hmg',hcls',hd',h2',_,_⟩,_,_⟩,Mv⟩:=Fly.head (S:=frs env outer) (c:=c) .none he hmg hcls hd h2 h2s h1 hT hσ hTe hoT hdT h3s hn hs hTS
   refine gZ hfr (hl.of_keeps fun b o hb hnf=>⟨o,?_,rfl⟩) hf he' hmg' hcls' hd' h2' hn (by rw[Heap.size_after_update];exact hnz) hs (by rw[Heap.size_after_update];exact hsT) fun h' F' M'=>h h' F' (Mv.trans M')
   rw[Heap.get?_update_other _ _ (fun q=>by rw[<-q,hoT] at hb;cases Option.some.inj hb;exact hnf ts hdT)]
   exact hb
  ·cases Option.some.inj hok
   rw[if_pos (show (rawInt env.locals == rawInt env.locals)=true from by simp)]
   exact wpAny_pure (h s.heap ⟨⟨oe,vs,Cl,he,hmg,hcls,hd,h2,h2s,.inr ⟨T,oT,ts,_,h1,hT,hσ,hTe,hoT,hdT,h3,rfl⟩⟩,hn,hs⟩ .refl)
theorem rL {fr:Option Addr} {S:List Addr} {Q:Unit->Shared->Prop} (X:Fly C c n σ s.heap e (fun x=>x≠none)) (hS:∀b o,s.heap.get? b=some o->b∈S->∀vs,o.data≠.fields vs)
  (h:∀h',Fly C c n σ h' e (fun x=>x=some (fr.elim .none fun f=>rawInt f))->Moved n σ S s.heap h'->Q () {s with heap:=h'}):wpAny M A (setFlight (.ref e) fr) Q E s:=by
 obtain ⟨⟨oe,vs,Cl,he,hmg,hcls,hd,h2,h2s,hT⟩,hn,hs⟩:=X
 rcases hT with ⟨h0,_⟩ | ⟨T,oT,ts,fl,h1,hT,hσ,hTe,hoT,hdT,h3,_⟩
 ·exact absurd rfl h0
 have h3s:3 < ts.size:=(Array.getElem?_eq_some_iff.mp h3).1
 unfold setFlight
 refine wpAny_bind (wpAny_field he hd h1 ?_)
 rw[if_pos (show (Value.ref T != Value.none)=true from by simp)]
 refine bH (Fly.head (S:=S) (c:=c) (fr.elim .none fun f=>rawInt f) he hmg hcls hd h2 h2s h1 hT hσ hTe hoT hdT h3s hn hs fun hm=>hS T oT hoT hm ts hdT) fun F' M'=>?_
 exact wpAny_setField hoT hdT h3s (h _ F' M')
theorem Fly.mono {ok':Option Value->Prop} {h:Heap} (X:Fly C c n σ h e ok) (k:∀x,ok x->ok' x):Fly C c n σ h e ok':=by
 obtain ⟨⟨oe,vs,Cl,he,hmg,hcls,hd,h2,h2s,hT⟩,hn,hs⟩:=X
 refine⟨⟨oe,vs,Cl,he,hmg,hcls,hd,h2,h2s,?_⟩,hn,hs⟩
 rcases hT with ⟨h0,h1⟩ | ⟨T,oT,ts,fl,h1,hT,hσ,hTe,hoT,hdT,h3,hk⟩
 ·exact .inl ⟨k _ h0,h1⟩
 ·exact .inr ⟨T,oT,ts,fl,h1,hT,hσ,hTe,hoT,hdT,h3,k _ hk⟩
theorem Fly.less {n':Nat} {h:Heap} (X:Fly C c n σ h e ok) (k:n'<=n):Fly C c n' σ h e ok:=by
 obtain ⟨⟨oe,vs,Cl,he,hmg,hcls,hd,h2,h2s,hT⟩,hn,hs⟩:=X
 refine⟨⟨oe,vs,Cl,he,hmg,hcls,hd,h2,h2s,?_⟩,Nat.le_trans k hn,hs⟩
 rcases hT with ⟨h0,h1⟩ | ⟨T,oT,ts,fl,h1,hT,hσ,hTe,hoT,hdT,h3,hk⟩
 ·exact .inl ⟨h0,h1⟩
 ·exact .inr ⟨T,oT,ts,fl,h1,Nat.le_trans k hT,hσ,hTe,hoT,hdT,h3,hk⟩
end
section
variable {C:Cx} {env:Env} {m:aq} {σ σ':ae} {n:Nat} {S:List Addr}
noncomputable def DS (h:Heap) (S:List Addr):Prop:=∀b∈S,∀o,h.get? b=some o->∃es ep,o.data=.dict es ep
theorem Moved.tups {h h':Heap} (M:Moved n σ S h h') (d:DS h S):ar h h':=fun b o e ht=>by
 obtain ⟨_,it,k,hd⟩:=ht
 refine M.keep b o e (.inr (.inr fun vs q=>by rw[hd] at q;cases q)) fun hb=>?_
 refine x2_1 (d b hb o e) fun es ep q=>?_
 rw[hd] at q;cases q
theorem RelG.moved {s:Shared} {h':Heap} (R:RelG C σ s) (M:Moved n σ S s.heap h') (d:DS s.heap S) (hS:∀b∈S,C.hB.get? b=none/\σ b=none) (hn:∀b o,C.hB.get? b=some o->b < n):RelG C σ {s with heap:=h'}:=by
 refine⟨let ⟨_,tk,dr,e⟩:=R.rest;⟨h',tk,dr,by rw[e]⟩,fun b o e=>?_,fun a o e=>?_,R.apart⟩
 ·exact M.keep b o (R.base b o e) (.inl (hn b o e)) fun hb=>by rw[(hS b hb).1] at e;cases e
 ·refine (R.view a o e).keep (M.tups d) fun o' e'=>M.keep a o' e' (.inr (.inl (by rw[e];simp))) fun hb=>by rw[(hS a hb).2] at e;cases e
theorem Moved.like {h h':Heap} {b:Addr} {o:Obj} (M:Moved n σ S h h') (d:DS h S) (e:h.get? b=some o) (z:b < n\/σ b≠none\/∀vs,o.data≠.fields vs):∃o',h'.get? b=some o'/\Like o o':=by
 by_cases hb:b∈S
 ·refine x1_1 (M.slots b o e hb) fun sl h1=>?_
  exact⟨_,h1,.inr ⟨d b hb o e,sl,rfl⟩⟩
 ·exact⟨o,M.keep b o e z hb,.refl o⟩
theorem FrameRel.moved {h h':Heap} (F:FrameRel C env m σ h) (M:Moved n σ S h h') (d:DS h S):FrameRel C env m σ h':=by
 have kt:=M.tups d
 have kc:∀c v,h.IsCell c v->h'.IsCell c v:=fun c v ⟨o,ho,hd⟩=>⟨o,M.keep c o ho (.inr (.inr fun vs q=>by rw[hd] at q;cases q)) (fun hb=>by
  refine x2_1 (d c hb o ho) fun es ep q=>?_
  rw[hd] at q;cases q),hd⟩
 refine x1_2 F.ns fun mm hn hv=>?_
 refine⟨⟨mm,Like.ns hn fun o e=>M.like d e (.inr (.inr fun vs q=>?_)),fun x v e k=>?_⟩,fun x v e=>?_,fun n c e=>?_,F.sepL,F.baseL,F.baseC,F.dist,F.has⟩
 ·refine x3_3 hn fun oL es ep ho hd _=>?_;clear hn
  rw[ho] at e;cases Option.some.inj e;rw[hd] at q;cases q
 ·refine x1_2 (hv x v e k) fun w h1 h2=>?_;exact⟨w,h1,h2.keep kt⟩
 ·rcases F.cel x v e with q | ⟨q,c,w,h1,h2,h3⟩
  ·exact .inl q
  ·exact .inr ⟨q,c,w,h1,kc _ _ h2,h3.keep kt⟩
 ·refine x1_1 (F.cells n c e) fun v hv=>?_;exact⟨v,kc _ _ hv⟩
theorem Step.moved {own:Addr->Prop} {σ₀:ae} {h₀ h h':Heap} (x:Step own σ₀ σ h₀ h) (M:Moved n σ S h h') (d:DS h S) (hn:h₀.objs.size<=n):Step own σ₀ σ h₀ h' where
 keepL:=fun b o e z q=>by
  refine x1_2 (x.keepL b o e z q) fun o' h1 h2=>?_
  refine x1_2 (M.like d h1 (.inl (Nat.lt_of_lt_of_le (Heap.lt_size e) hn))) fun o'' h3 h4=>?_
  exact⟨o'',h3,h2.trans h4⟩
 size:=Nat.le_trans x.size M.size
 new:=x.new
theorem Like.dict {o o':Obj} (x:Like o o') {es:Array DictEntry} {ep:Nat} (h:o.data=.dict es ep):o'.data=.dict es ep:=by
 rcases x with rfl | ⟨_,sl,rfl⟩<;>exact h
theorem FrsOk.step {own:Addr->Prop} {h h':Heap} {fs:List Env} (x:FrsOk C σ h fs) (S:Step own σ σ' h h') (ho:∀y∈fs,∀L,y.frame=some L->¬own L):FrsOk C σ' h' fs:=fun y hy=>by
 obtain ⟨h1,L,h2,h3,h4,o,es,ep,h5,h6⟩:=x y hy
 refine x1_2 (S.keepL L o h5 h4 (ho y hy L h2)) fun o' h7 h8=>?_
 refine⟨h1,L,h2,h3,?_,o',es,ep,h7,h8.dict h6⟩
 cases z:σ' L with
 |none=>rfl
 |some q=>exact absurd (Heap.lt_size h5) (Nat.not_lt.mpr (S.new L h4 (by rw[z];simp)))
theorem FOk.step {A:Around} {h h':Heap} (x:FOk C A env σ h) (S:Step (dZ env) σ σ' h h'):FOk C A env σ' h':=by
 obtain ⟨⟨outer,h1,h2,h3⟩,h4⟩:=x
 exact⟨⟨outer,h1,h2.step S h3,h3⟩,h4⟩
theorem qg {s:Shared} {outer:List Env} (F:FrameRel C env m σ s.heap) (hf:env.frame=some env.locals) (ho:FrsOk C σ s.heap outer):DS s.heap (frs env outer)/\∀b∈frs env outer,C.hB.get? b=none/\σ b=none:=by
 have key:∀b∈frs env outer,(C.hB.get? b=none/\σ b=none)/\∃o es ep,s.heap.get? b=some o/\o.data=.dict es ep:=by
  intro b hb
  unfold frs at hb
  rw[List.filterMap_cons,hf] at hb
  rcases List.mem_cons.mp hb with rfl | hb
  ·obtain ⟨mm,⟨oL,es,ep,hoL,hdL,_⟩,_⟩:=F.ns
   exact⟨⟨F.baseL,F.sepL⟩,oL,es,ep,hoL,hdL⟩
  ·refine x1_2 (List.mem_filterMap.mp hb) fun y hy hyb=>?_
   obtain ⟨_,L,h2,h3,h4,h5⟩:=ho y hy
   rw[h2] at hyb;cases Option.some.inj hyb
   exact⟨⟨h3,h4⟩,h5⟩
 refine⟨fun b hb o e=>?_,fun b hb=>(key b hb).1⟩
 obtain ⟨_,o',es,ep,h1,h2⟩:=key b hb
 rw[e] at h1;cases Option.some.inj h1;exact⟨es,ep,h2⟩
end
abbrev XT:=String->aq->ae->Prop
abbrev bX:=aq->ae->(Fl->aq->ae->Prop)->XT->Prop
noncomputable def nA (env:Env):Option Value->Prop:=fun x=>x=none\/x=some .none\/x=some (rawInt env.locals)
abbrev AftX (C:Cx) (env:Env) (σ:ae) (s:Shared) (X:XT) (E:Value->Shared->Prop):Prop:=
 ∀c e m' σ' s',Fly C c s.heap.objs.size σ' s'.heap e (nA env)->RelG C σ' s'->FrameRel C env m' σ' s'.heap->Step (dZ env) σ σ' s.heap s'.heap->X c m' σ'->E (.ref e) s'
structure HSX (C:Cx) (sc:Scope) (k:Nat) (b:List Stmt) (T:bX):Prop where
 run:∀(env:Env) (A:Around) (s:Shared) (m:aq) (σ:ae) (Q:Fl->aq->ae->Prop) (X:XT) (P:Flow->Shared->Prop) (E:Value->Shared->Prop),
  EnvOk env sc->AOk C A k->RelG C σ s->FrameRel C env m σ s.heap->FOk C A env σ s.heap->T m σ Q X->oj C env σ s Q P->AftX C env σ s X E->wpAny (model C.prog C.w) A (execs b env) P E s
structure HSX1 (C:Cx) (sc:Scope) (k:Nat) (b:Stmt) (T:bX):Prop where
 run:∀(env:Env) (A:Around) (s:Shared) (m:aq) (σ:ae) (Q:Fl->aq->ae->Prop) (X:XT) (P:Flow->Shared->Prop) (E:Value->Shared->Prop),
  EnvOk env sc->AOk C A k->RelG C σ s->FrameRel C env m σ s.heap->FOk C A env σ s.heap->T m σ Q X->oj C env σ s Q P->AftX C env σ s X E->wpAny (model C.prog C.w) A (exec b env) P E s
section
variable {C:Cx} {sc:Scope} {k:Nat}
@[reducible] noncomputable def xP (T:ST):bX:=fun m σ Q _=>T m σ Q
theorem HSX1.plain {st:Stmt} {T:ST} (h:HS1 C sc k st T):HSX1 C sc k st (xP T):=⟨fun env A s m σ Q X P E en ao R F _ q hP _=>h.run env A s m σ Q P E en ao R F q hP⟩
theorem HSX.plain {b:List Stmt} {T:ST} (h:HS C sc k b T):HSX C sc k b (xP T):=⟨fun env A s m σ Q X P E en ao R F _ q hP _=>h.run env A s m σ Q P E en ao R F q hP⟩
@[reducible] noncomputable def kX (U:bX) (Q:Fl->aq->ae->Prop) (X:XT):Fl->aq->ae->Prop:=fun f m σ=>match f with
 |.next=>U m σ Q X
 |f=>Q f m σ
@[reducible] noncomputable def mU (T U:bX):bX:=fun m σ Q X=>T m σ (kX U Q X) X
theorem AftX.later {env:Env} {σ σ₁:ae} {s s₁:Shared} {X:XT} {E:Value->Shared->Prop} (h:AftX C env σ s X E) (S:Step (dZ env) σ σ₁ s.heap s₁.heap):AftX C env σ₁ s₁ X E:=fun c e m' σ' s' fl R F S' x=>h c e m' σ' s' (fl.less S.size) R F (S.trans S') x
theorem HSX.cons {st:Stmt} {b:List Stmt} {T U:bX} (h1:HSX1 C sc k st T) (h2:HSX C sc k b U):HSX C sc k (st::b) (mU T U):=by
 refine⟨?_⟩;intro env A s m σ Q X P E en ao R F W q hP hX
 refine wpAny_execs_cons (h1.run env A s m σ _ X _ E en ao R F W q (fun f g m₁ σ₁ s₁ hf R₁ F₁ S₁ q₁=>?_) hX)
 cases hf with
 |next=>exact h2.run env A s₁ m₁ σ₁ Q X P E en ao R₁ F₁ (W.step S₁) q₁ (fun f g m₂ σ₂ s₂ hf R₂ F₂ S₂ q₂=>hP f g m₂ σ₂ s₂ hf R₂ F₂ (S₁.trans S₂) q₂) (AftX.later hX S₁)
 |brk=>exact hP _ _ m₁ σ₁ s₁ .brk R₁ F₁ S₁ q₁
 |cont=>exact hP _ _ m₁ σ₁ s₁ .cont R₁ F₁ S₁ q₁
 |ret hv=>exact hP _ _ m₁ σ₁ s₁ (.ret hv) R₁ F₁ S₁ q₁
@[reducible] noncomputable def AL (T U:bX) (m:aq) (Q:Fl->aq->ae->Prop) (X:XT):Bool->ae->Prop:=fun b σ=>if b then T m σ Q X else U m σ Q X
@[reducible] noncomputable def rP (m:aq) (X:XT):String->ae->Prop:=fun c σ=>X c m σ
@[reducible] noncomputable def As (B:BT) (T U:bX):bX:=fun m σ Q X=>B m σ (AL T U m Q X)
theorem xT {pos:Pos} {test:Expr} {a b:List Stmt} {B:BT} {T U:bX} (hb:HB C sc k test B) (h1:HSX C sc k a T) (h2:HSX C sc k b U):HSX1 C sc k (.If test a b pos) (As B T U):=by
 refine⟨?_⟩;intro env A s m σ Q X P E en ao R F W q hP hX
 refine wpAny_If (hb.run env A s m σ _ _ E en ao R F q fun b σ₁ s₁ R₁ S₁ q₁=>?_)
 have S:=S₁.own (env:=env)
 have hP':oj C env σ₁ s₁ Q P:=fun f g m₂ σ₂ s₂ hf R₂ F₂ S₂ q₂=>hP f g m₂ σ₂ s₂ hf R₂ F₂ (S.trans S₂) q₂
 cases b with
 |true=>exact h1.run env A s₁ m σ₁ Q X P E en ao R₁ (F.step R S₁) (W.step S) q₁ hP' (AftX.later hX S)
 |false=>exact h2.run env A s₁ m σ₁ Q X P E en ao R₁ (F.step R S₁) (W.step S) q₁ hP' (AftX.later hX S)
end
structure Way (C:Cx) (A:Around) (env:Env) (c:String) (e:Addr) (σ₀:ae) (h₀:Heap) (m:aq) (σ:ae) (s:Shared) (ok:Option Value->Prop):Prop where
 fly:Fly C c h₀.objs.size σ s.heap e ok
 rel:RelG C σ s
 frame:FrameRel C env m σ s.heap
 step:Step (dZ env) σ₀ σ h₀ s.heap
 fok:FOk C A env σ s.heap
section
variable {C:Cx} {sc:Scope} {k:Nat} {A A':Around} {env:Env} {c:String} {e:Addr} {σ₀ σ:ae} {h₀:Heap} {m:aq} {s:Shared} {ok:Option Value->Prop} {M:Model} {E:Value->Shared->Prop}
theorem Way.move {outer:List Env} {h':Heap} {ok':Option Value->Prop} (W:Way C A env c e σ₀ h₀ m σ s ok) (hb:∀b o,C.hB.get? b=some o->b < h₀.objs.size) (ho:A.frames=some (env::outer)) (fl:Fly C c h₀.objs.size σ h' e ok') (Mv:Moved h₀.objs.size σ (frs env outer) s.heap h'):Way C A env c e σ₀ h₀ m σ {s with heap:=h'} ok':=by
 refine x1_3 W.fok.frames fun outer' h1 h2 h3=>?_
 rw[ho] at h1;cases Option.some.inj h1
 refine bH (qg W.frame W.fok.frame h2) fun d hS=>?_
 refine⟨fl,W.rel.moved Mv d hS hb,W.frame.moved Mv d,W.step.moved Mv d (Nat.le_refl _),⟨⟨outer,ho,fun y hy=>?_,h3⟩,W.fok.frame⟩⟩
 obtain ⟨k1,L,k2,k3,k4,o,es,ep,k5,k6⟩:=h2 y hy
 obtain ⟨o',k7,k8⟩:=Mv.like d k5 (.inr (.inr fun vs q=>by rw[k6] at q;cases q))
 exact⟨k1,L,k2,k3,k4,o',es,ep,k7,k8.dict k6⟩
theorem Way.note {Q:Unit->Shared->Prop} (W:Way C A env c e σ₀ h₀ m σ s (nA env)) (hk:env.scope.kind=.function) (hb:∀b o,C.hB.get? b=some o->b < h₀.objs.size) (hA:A'.frames=A.frames)
  (h:∀s',Way C A env c e σ₀ h₀ m σ s' (fun x=>x=some (rawInt env.locals))->Q () s'):wpAny M A' (noteFrame (.ref e) env) Q E s:=by
 refine x1_3 W.fok.frames fun outer h1 h2 h3=>?_
 exact wC (hA.trans h1) (lv W.fok.frame hk W.frame h2) W.fok.frame W.step.size (W.rel.freshNone (aH s.heap)) W.fly fun h' fl Mv=>h _ (W.move hb h1 fl Mv)
theorem Way.flight {fr:Option Addr} {Q:Unit->Shared->Prop} (W:Way C A env c e σ₀ h₀ m σ s (fun x=>x≠none)) (hk:env.scope.kind=.function) (hb:∀b o,C.hB.get? b=some o->b < h₀.objs.size)
  (h:∀s',Way C A env c e σ₀ h₀ m σ s' (fun x=>x=some (fr.elim .none fun f=>rawInt f))->Q () s'):wpAny M A' (setFlight (.ref e) fr) Q E s:=by
 refine x1_3 W.fok.frames fun outer h1 h2 h3=>?_
 refine rL (S:=frs env outer) W.fly (fun b o ho hm vs q=>?_) fun h' fl Mv=>h _ (W.move hb h1 fl Mv)
 refine x2_1 ((qg W.frame W.fok.frame h2).1 b hm o ho) fun es ep z=>?_
 rw[q] at z;cases z
theorem Way.mono {ok':Option Value->Prop} (W:Way C A env c e σ₀ h₀ m σ s ok) (k:∀x,ok x->ok' x):Way C A env c e σ₀ h₀ m σ s ok':=⟨W.fly.mono k,W.rel,W.frame,W.step,W.fok⟩
theorem Way.back (W:Way C A env c e σ₀ h₀ m σ s (fun x=>x=some (rawInt env.locals))) (hk:env.scope.kind=.function) (hb:∀b o,C.hB.get? b=some o->b < h₀.objs.size)
  (h:∀s',Way C A env c e σ₀ h₀ m σ s' (nA env)->E (.ref e) s'):cameBackBy M A env E (.ref e) s:=by
 unfold cameBackBy
 obtain ⟨oe,vs,Cl,he,hmg,hcls,hd,h2,h2s,hT⟩:=W.fly.obj
 rcases hT with ⟨h0,_⟩ | ⟨T,oT,ts,fl,h1,_⟩
 ·cases h0
 refine wpAny_bind (wpAny_field he hd h1 ?_)
 rw[if_neg (show ¬((Value.ref T == Value.none)=true) from by simp)]
 exact (W.mono fun x hx=>by rw[hx];simp).flight hk hb fun s' W'=>h s' (W'.mono fun x hx=>by rw[hx,W.fok.frame];exact .inr (.inr rfl))
noncomputable def eP (g:Tgt) (inv:ae->Prop) (T:bX):List V->bX
 |[]=>fun m σ Q X=>inv σ/\Q .next m σ
 |v::r=>fun m σ Q X=>inv σ/\∃m',bG g v m=some m'/\T m' σ (fun f m₁ σ₁=>match f with
  |.next=>eP g inv T r m₁ σ₁ Q X
  |.cont=>eP g inv T r m₁ σ₁ Q X
  |.brk=>Q .next m₁ σ₁
  |.ret u=>Q (.ret u) m₁ σ₁) X
@[reducible] noncomputable def zZ (g:Tgt) (T:bX) (m:aq) (Q:Fl->aq->ae->Prop) (X:XT):List V->(ae->Prop)->ae->Prop:=fun items inv σ=>eP g inv T items m σ Q X
@[reducible] noncomputable def vI (g:Tgt) (I:IT) (T:bX):bX:=fun m σ Q X=>I m σ (zZ g T m Q X)
theorem xU {target iter:Expr} {body:List Stmt} {pos:Pos} {g:Tgt} {I:IT} {T:bX} {loc:Bool} (ht:HT C sc k loc target g) (hi:HI C sc k iter I) (hb:HSX C sc k body T)
  (hf:∀env x,foldedSetIterable iter env x=pure x):HSX1 C sc k (.For target iter body [] pos) (vI g I T):=by
 refine⟨?_⟩;intro env A s m σ Q X P E en ao R F W q hP hX
 have hbase:∀b o,C.hB.get? b=some o->b < s.heap.objs.size:=fun b o e=>Heap.lt_size (R.base b o e)
 rw[exec_For]
 refine wpAny_bind (wpAny_standAt ?_)
 have start:wpAny (model C.prog C.w) A (eval iter env) (fun x s₁=>wpAny (model C.prog C.w) A (pyIter x) (fun it s₂=>codeAny (model C.prog C.w) A (.forLoop target it body [] env) (fun r s'=>match r with | .ok f=>P f s' | .error e=>cameBackBy (model C.prog C.w) A env E e s') s₂) E s₁) E s:=by
  refine hi.run env A s m σ _ _ E en ao R F q fun items inv I St σ₀ s₀ hit st₀ hI hσ₀ R₀ S₀ q₀=>?_
  have F₀:=F.step R S₀
  refine x1_2 F.ns fun mm hn _=>?_
  have hIL:I≠env.locals:=fun e=>absurd hn.lt (Nat.not_lt.mpr (e▸hI))
  have hIb:C.hB.get? I=Option.none:=R.baseNone (ai hI)
  have back:∀{σ':ae} {h':Heap},Step (fun b=>dZ env b\/b=I) σ σ' s.heap h'->Step (dZ env) σ σ' s.heap h':=fun S=>
   S.mono fun b o e z=>z.elim id fun z=>absurd (Heap.lt_size e) (Nat.not_lt.mpr (z▸hI))
  refine codeAny_forLoop_any
   (ForInv C env σ s.heap I items St fun rest m' σ'=>eP g inv T rest m' σ' Q X) ?_ _
   ⟨0,m,σ₀,items,by simp,by simp,rfl,st₀,hσ₀,R₀,F₀,S₀.mono fun _ _ _ z=>z.elim,q₀⟩
  rintro n s' ⟨i,m',σ',rest,e1,e2,rfl,st,hσ',R',F',S',q'⟩
  have drew:∀{h':Heap},Heap.ExtBut I s'.heap h'->s'.heap.objs.size<=h'.objs.size->Step (fun b=>dZ env b\/b=I) σ' σ' s'.heap h':=fun hx hsz=>
   .of (fun b o e _ q=>hx b o (fun z=>q (.inr z)) e) hsz fun _ a b=>absurd a b
  cases rest with
  |nil=>
   have hil:i=items.length:=by
    have:=congrArg List.length e1
    simp at this;omega
   subst hil
   refine av (hit.done A σ' s' _ _ ao R' q'.1 st fun h' tk hx hsz=>?_)
   exact wpAny_execs_nil (hP .next .next m' σ' _ .next (bp (tk:=tk) R' hx hσ' hIb (hit.live _ _ st)) (a6 F' hx (hit.live _ _ st) hIL) (back (S'.trans (drew hx hsz))) q'.2)
  |cons v r=>
   obtain ⟨hinv,m₁,hm₁,q'⟩:=q'
   have hiv:items[i]?=some v:=by
    have:(items.drop i)[0]?=some v:=by rw[e1];rfl
    simpa using this
   have hilt:i < items.length:=by
    have:=congrArg List.length e1
    simp at this;omega
   refine av (hit.next A σ' s' i v _ _ ao R' hinv st hiv fun w h₁ tk₁ hv st₁ hx hsz=>?_)
   have R₁:=bp (tk:=tk₁) R' hx hσ' hIb (hit.live _ _ st)
   have F₁:=a6 F' hx (hit.live _ _ st) hIL
   have S₁:=S'.trans (drew hx hsz)
   refine hit.own A _ (i+1) target w _ _ st₁ ?_
   refine ht.run env A _ m' m₁ σ' v w _ _ en ao R₁ F₁ hv hm₁ fun s₂ R₂ F₂ S₂L=>?_
   have S₂:Step (dZ env) σ' σ' h₁ s₂.heap:=S₂L.mono fun _ _ _ z=>z.imp id fun z=>z.2
   have S₂':Step (fun b=>dZ env b\/b=I) σ' σ' h₁ s₂.heap:=S₂.mono fun _ _ _ z=>.inl z
   have st₂:St (i+1) s₂.heap:=hit.frame _ _ _ st₁ (fun o e=>S₂.keep I o e hσ' (fun z=>by
    rcases z with z | ⟨n,z⟩
    ·exact hIL z
    ·refine x2_2 (F₁.cells n I z) fun u ou hou hdu=>?_
     refine x1_3 (hit.live _ _ st₁) fun o' ho' _ hc'=>?_
     have:ou=o':=Option.some.inj (hou.symm.trans ho')
     exact hc' u (this▸hdu)) (hit.flds _ _ st₁ o e)) (S₂.tupsO F₁ R₁)
   have S02:=back (S₁.trans S₂')
   refine hb.run env A s₂ m₁ σ' _ X _ _ en ao R₂ F₂ (W.step S02) q' (fun f fl m₃ σ₃ s₃ hf R₃ F₃ S₃ q₃=>?_) (fun c e m₃ σ₃ s₃ fl R₃ F₃ S₃ x=>by
    have WW:Way C A env c e σ s.heap m₃ σ₃ s₃ (nA env):=⟨fl.less S02.size,R₃,F₃,S02.trans S₃,(W.step S02).step S₃⟩
    exact WW.note en.k hbase rfl fun s₄ W₄=>W₄.back en.k hbase fun s₅ W₅=>hX c e m₃ σ₃ s₅ W₅.fly W₅.rel W₅.frame W₅.step x)
   have S₃':Step (fun b=>dZ env b\/b=I) σ' σ₃ s₂.heap s₃.heap:=S₃.mono fun _ _ _ z=>.inl z
   have SS:=(S₁.trans S₂').trans S₃'
   have go:eP g inv T r m₃ σ₃ Q X->∃k',k' < (v::r).length+1/\ForInv C env σ s.heap I items St (fun rest m' σ'=>eP g inv T rest m' σ' Q X) k' s₃:=fun q₃=>by
    refine⟨r.length+1,Nat.lt_succ_self _,i+1,m₃,σ₃,r,?_,hilt,rfl,?_,?_,R₃,F₃,SS,q₃⟩
    ·rw[<-List.tail_drop,e1];rfl
    ·refine hit.frame _ _ _ st₂ (fun o e=>S₃.keep I o e hσ' (fun z=>?_) (hit.flds _ _ st₂ o e)) (S₃.tupsO F₂ R₂)
     rcases z with z | ⟨n,z⟩
     ·exact hIL z
     ·refine x2_2 (F₂.cells n I z) fun u ou hou hdu=>?_
      refine x1_3 (hit.live _ _ st₂) fun o' ho' _ hc'=>?_
      have:ou=o':=Option.some.inj (hou.symm.trans ho')
      exact hc' u (this▸hdu)
    ·cases z:σ₃ I with
     |none=>rfl
     |some o=>
      refine x1_2 (hit.live _ _ st₂) fun o' ho' _=>?_
      exact absurd (Heap.lt_size ho') (Nat.not_lt.mpr (S₃.new I hσ' (by rw[z];simp)))
   cases hf with
   |next=>exact go q₃
   |cont=>exact go q₃
   |brk=>exact hP .next .next m₃ σ₃ s₃ .next R₃ F₃ (back SS) q₃
   |ret hv=>exact hP _ _ m₃ σ₃ s₃ (.ret hv) R₃ F₃ (back SS) q₃
 refine wpAny_bind (wpAny_mono start (fun x s₁ h₁=>wpAny_bind (wpAny_of_eq (hf env x) (wpAny_bind (wpAny_standAt (wpAny_bind (wpAny_holding (wpAny_mono h₁ (fun it s₂ h₂=>wpAny_runOwn h₂) fun _ _ h'=>h'))))))) fun _ _ h'=>h')
end
abbrev bE:=List V->ae->(V->ae->Prop)->(String->ae->Prop)->Prop
abbrev AftXc (C:Cx) (σ:ae) (s:Shared) (X:String->ae->Prop) (E:Value->Shared->Prop):Prop:=
 ∀c e σ' s',Fly C c s.heap.objs.size σ' s'.heap e (fun x=>x=some .none)->RelG C σ' s'->Step no σ σ' s.heap s'.heap->X c σ'->E (.ref e) s'
noncomputable def FnSoundX (C:Cx) (j:Nat) (f:Addr) (spec:bE):Prop:=
 ∀(A:Around) (s:Shared) (σ:ae) (vs:List V) (ws:List Value) (Q:V->ae->Prop) (X:String->ae->Prop) (P:Value->Shared->Prop) (E:Value->Shared->Prop),
  AOk C A (j+1)->(∃fs,A.frames=some fs/\FrsOk C σ s.heap fs)->RelG C σ s->VRels C.aS s.heap vs ws->spec vs σ Q X->r8 C σ s Q P->AftXc C σ s X E->codeAny (model C.prog C.w) A (.call (.ref f) ⟨ws,[]⟩) (fun r s'=>match r with | .ok (.ret v)=>P v s' | .ok _=>False | .error e=>E e s') s
section
variable {C:Cx}
theorem FnSoundX.mk (O:C.Ok) {f:Addr} {o:Obj} {fd:FuncData} {body:List Stmt} {xs:List String} {sc:Scope} {j:Nat} {spec:bE} {T:bX}
  (ho:C.hB.get? f=some o) (hd:o.data=.func fd) (hcd:C.hB.CodeRec fd.code fd.qualname) (hb:fd.body=.stmts body) (hsc:fd.scope=sc) (hcl:fd.closure=[]) (hg:fd.globals=mainGlobals) (hbi:fd.builtins=builtinsNs)
  (hk:sc.kind=.function) (hfr:∀p∈sc.names,p.2≠.free) (hco:sc.isCoroutine=false) (hgen:sc.isGenerator=false)
  (hbind:∀ws:List Value,ws.length=xs.length->bindArgs fd ⟨ws,[]⟩=pure ((xs.map Str.ofString).zip ws))
  (hloc:∀x∈xs,sc.names.lookup (Str.ofString x)=some .local\/sc.names.lookup (Str.ofString x)=some .cell)
  (hT:HSX C sc j body T)
  (hspec:∀vs σ Q X,spec vs σ Q X->vs.length=xs.length/\T (bD xs vs cZ) σ (fun f _ σ'=>match f with | .ret v=>Q v σ' | .next=>Q .none σ' | _=>False) (fun c _ σ'=>X c σ')):FnSoundX C j f spec:=by
 intro A s σ vs ws Q X P E ao ⟨fs,hfs,hfo⟩ R hvs hs hP hX
 subst hsc
 refine bH (hspec vs σ Q X hs) fun hlen q=>?_
 refine ik O ho hd hcd hb hcl hg hbi hk hfr hco hgen hbind hloc ao R hvs hlen fun env s₁ K=>?_
 have W₁:FOk C (A.deeper env) env σ s₁.heap:=by
  refine⟨⟨fs,Around.frames_deeper hfs,fun y hy=>?_,fun y hy L hL z=>?_⟩,K.eF⟩
  ·obtain ⟨h1,L,h2,h3,h4,o,es,ep,h5,h6⟩:=hfo y hy
   exact⟨h1,L,h2,h3,h4,o,es,ep,K.keep _ _ h5,h6⟩
  ·obtain ⟨_,L',h2,_,_,o,_,_,h5,_⟩:=hfo y hy
   rw[hL] at h2;cases Option.some.inj h2;exact Nat.not_le_of_lt (Heap.lt_size h5) (K.own L z)
 refine hT.run env _ s₁ _ σ _ _ _ _ K.en K.ao K.rel K.fr W₁ q (fun fl g m' σ' s' hf R' F' S' q'=>?_) (fun c e m' σ' s' fl R' F' S' x'=>?_)
 ·have S₀:=K.step S'
  cases hf with
  |next=>exact hP .none .none σ' s' .none R' S₀ q'
  |ret hv=>exact hP _ _ σ' s' hv R' S₀ q'
  |brk=>exact q'.elim
  |cont=>exact q'.elim
 ·have WW:Way C (A.deeper env) env c e σ s₁.heap m' σ' s' (nA env):=⟨fl,R',F',S',W₁.step S'⟩
  have hbase:∀b o,C.hB.get? b=some o->b < s₁.heap.objs.size:=fun b o e=>Heap.lt_size (K.rel.base b o e)
  unfold leaving
  refine wpAny_bind (WW.note K.en.k hbase rfl fun s₂ W₂=>?_)
  refine (W₂.mono fun x hx=>by rw[hx];simp).flight K.en.k hbase fun s₃ W₃=>?_
  exact hX c e σ' s₃ (W₃.fly.less K.sz) W₃.rel (K.step W₃.step) x'
end
set_option tactic.hygienic true
noncomputable def Dead (b:Addr) (h:Heap):Prop:=h.get? b=none/\b < h.objs.size
theorem Dead.update {b a:Addr} {h:Heap} {f:Obj->Obj} {o:Obj} (x:Dead b h) (ha:h.get? a=some o):Dead b (h.update a f):=
 ⟨by rw[Heap.get?_update_other _ _ (by rintro rfl;rw[x.1] at ha;cases ha)];exact x.1,by rw[Heap.size_after_update];exact x.2⟩
theorem Dead.push {b:Addr} {h:Heap} {o:Obj} (x:Dead b h):Dead b (h.push o):=by
 refine⟨?_,by rw[Heap.size_push];exact Nat.lt_succ_of_lt x.2⟩
 cases e:(h.push o).get? b with
 |none=>rfl
 |some o'=>
  obtain ⟨h1,h2⟩:=Heap.get?_some_iff.mp e
  have h3:h.objs[b]?=some o':=by
   have:(h.push o).objs[b]?=h.objs[b]?:=by
    show (h.objs.push o)[b]?=_
    rw[Array.getElem?_push_lt x.2,Array.getElem?_eq_getElem x.2]
   rw[<-this];exact h1
  have:=Heap.get?_some_iff.mpr ⟨h3,h2⟩
  rw[x.1] at this;cases this
theorem ex {b:Addr} {M:Model} {Γ:Ctx} {p:Pos} {t:Sem Fin} {fs:List Frame} {s s':Shared} {e:End} (h:PySem.Runs M Γ p t fs s e s'):Dead b s.heap->Dead b s'.heap:=by
 induction h<;>intro d
 all_goals try simp only[Shared.setGen] at *
 all_goals first | exact d | (rename_i ih;exact ih d) | (rename_i ih;exact ih d.push) | (rename_i h1 _ ih;refine x1_1 (Option.isSome_iff_exists.mp h1) fun o ho=>?_;exact ih (d.update ho)) | (rename_i ih1 ih2;exact ih2 (ih1 d))
theorem kw {b:Addr} {M:Model} {Γ:Ctx} {p:Pos} {g:Nat} {r:Resume} {s s':Shared} {res:GenResult} (h:Wakes M Γ p g r s res s') (d:Dead b s.heap):Dead b s'.heap:=by
 unfold Wakes at h
 split at h
 ·exact h.elim
 ·split at h
  ·obtain ⟨e₁,s₁,hr,_,_,rfl⟩:=h;exact (ex hr d:Dead b s₁.heap)
  ·rw[h.2];exact d
  ·rw[h.2];exact d
 ·obtain ⟨e₁,s₁,hr,_,_,rfl⟩:=h;exact (ex hr d:Dead b s₁.heap)
 ·rw[h.2];exact d
 ·rw[h.2];exact d
theorem qU {α:Type} (M:Model) (Γ:Ctx) (D:Addr->Prop) (t:Sem α):∀(Q:α->Pos->Shared->Prop) (E:Value->Pos->Shared->Prop) (p:Pos) (s:Shared),(∀b,D b->Dead b s.heap)->Sem.wp M Γ t Q E p s->
  Sem.wp M Γ t (fun a p' s'=>(∀b,D b->Dead b s'.heap)/\Q a p' s') (fun e p' s'=>(∀b,D b->Dead b s'.heap)/\E e p' s') p s:=by
 induction t with
 |pure a | raise a=>intro Q E p s hn h;exact⟨hn,h⟩
 |unsupported | finish | register | yield | fork | await=>intro Q E p s _ h;exact h
 |rule _ k ih | «at» _ k ih | point _ k ih | ask k ih | handled _ k ih | stack k ih | thread k ih | loadIfAlive _ k ih | fresh k ih | os _ _ k ih | newGen _ k ih=>intro Q E p s hn h;exact ih _ Q E _ _ hn h
 |load a _ k ih=>intro Q E p s hn h;refine x1_2 h fun o ho h=>?_;exact⟨o,ho,ih o Q E p s hn h⟩
 |update a _ f k ih=>intro Q E p s hn h;exact⟨h.1,ih () Q E p _ (fun b hb=>by refine x1_1 (Option.isSome_iff_exists.mp h.1) fun o ho=>?_;exact (hn b hb).update ho) h.2⟩
 |alloc o k ih=>intro Q E p s hn h;exact ih _ Q E p _ (fun b hb=>(hn b hb).push) h
 |choose src m k ih=>intro Q E p s hn h;exact⟨h.1,ih _ Q E p _ hn h.2⟩
 |call c hd _ _ k ih=>intro Q E p s hn h;refine x2_2 h fun r s' hr h=>?_;exact⟨r,s',hr,ih r Q E p s' (fun b hb=>ex hr (hn b hb)) h⟩
 |genState g k ih=>intro Q E p s hn h;refine x1_2 h fun st hs h=>?_;exact⟨st,hs,ih _ Q E p s hn h⟩
 |resume g r _ k ih=>intro Q E p s hn h;refine x2_2 h fun res s' hw h=>?_;exact⟨res,s',hw,ih res Q E p s' (fun b hb=>kw hw (hn b hb)) h⟩
theorem mW {α:Type} {M:Model} {A:Around} {s:Shared} {t:Sem α} {Q:α->Shared->Prop} {E:Value->Shared->Prop}
  (h:wpAny M A t (fun a s'=>(∀b,Dead b s.heap->Dead b s'.heap)->Q a s') (fun e s'=>(∀b,Dead b s.heap->Dead b s'.heap)->E e s') s):wpAny M A t Q E s:=
 fun Γ p hΓ=>Sem.wp_mono M Γ t (fun _ _ _ x=>x.2 x.1) (fun _ _ _ x=>x.2 x.1) p s (qU M Γ (fun b=>Dead b s.heap) t _ _ p s (fun _ h=>h) (h Γ p hΓ))
set_option tactic.hygienic false
noncomputable def ba:List Value:=[.type "ValueError",.type "Exception",.type "BaseException",.type "object"]
noncomputable def Ad (C:Cx) (c:String) (Cl:Addr):Prop:=OwnCls (Str.ofString c) Cl ba "ValueError.__new__" C.mg C.hB
section
variable {C:Cx} {sc:Scope} {k:Nat}
@[reducible] noncomputable def ko (c:String):bX:=fun m σ _ X=>X c m σ
theorem lO (O:C.Ok) (hz:C.held=Option.none) {c:String} {Cl:Addr} (K:Ad C c Cl) {x:Str} {n:Nat} {np ap cpos pos:Pos} (hn:sc.names.lookup (Str.ofString c)=some .globalImplicit) (hdb:(Str.ofString c == ("__debug__":Str))=false) :
  HSX1 C sc k (.Raise (some (.Call (.Name (Str.ofString c) np) [.Constant (.str x) n ap] [] cpos)) Option.none pos) (ko c):=by
 refine⟨?_⟩;intro env A s m σ Q X P E en ao R F W q hP hX
 have OK:OwnCls (Str.ofString c) Cl ba "ValueError.__new__" C.mg s.heap:=K.keeps R.base
 obtain ⟨tl,N,nm,qn,bs,hdct,sn,sub,ab,col,dd,k0,k1,k2,k3,k5,mN,hC,hN,hni,T⟩:=OK.obj
 refine mW ?_
 refine wpAny_Raise_call_subT (C:=Cl) (nm:=nm) (q:=qn) (N:=N) (bs:=bs) (bm:=tl) (hdct:=hdct) (sn:=sn) (sub:=sub) (ab:=ab) (col:=col) (dd:=dd) (k0:=k0) (k1:=k1) (k2:=k2) (k3:=k3) (k5:=k5)
  PySem.F.excBase_ValueError (mN:=mN) (T.hasType PySem.F.excBase_ValueError.hasBase) (ao.none hz) rfl hni
  (Calls.Name_function_global en.k (en.of hn) (Calls.loadGlobal_global (mg:=C.mg) (by rw[en.globals];exact O.g.keeps R.base) K.bound ⟨rfl,?_⟩) hdb)
 refine au rfl ?_
 show wpAny _ A (spliced ((false,eval (.Constant (.str x) n ap) env)::backTo cpos (starEach [] env))) _ _ s
 refine Calls.spliced_cons (Calls.Constant_str (Calls.spliced_nil ⟨rfl,by rw[sizeLine_eq];show 1<=_;decide,hC,hN,T,fun h' e hm hdead=>?_⟩))
 refine x1_3 hm.there fun t he _ _=>?_
 have hge:s.heap.objs.size<=e:=by
  rcases Nat.lt_or_ge e s.heap.objs.size with z | z
  ·have:=(hdead e ⟨hm.new,z⟩).1
   have he':h'.get? e=_:=he
   rw[he'] at this;cases this
  ·exact z
 have hsz:s.heap.objs.size<=h'.objs.size:=Nat.le_trans hge (Nat.le_of_lt (Heap.lt_size he))
 have hkeep:∀b o,s.heap.get? b=some o->h'.get? b=some o:=hm.keeps
 refine hX c e m σ _ ⟨⟨_,_,Cl,he,K.bound,rfl,rfl,rfl,by show 2 < 6;decide,.inl ⟨.inl rfl,rfl⟩⟩,hge,R.freshNone hm.new⟩ (R.grow hkeep) (F.grow hkeep) (Step.grow hkeep hsz) q
abbrev gJ:=aq->ae->(V->ae->Prop)->(String->ae->Prop)->Prop
structure HEX (C:Cx) (sc:Scope) (k:Nat) (e:Expr) (T:gJ):Prop where
 run:∀(env:Env) (A:Around) (s:Shared) (m:aq) (σ:ae) (Q:V->ae->Prop) (X:String->ae->Prop) (P:Value->Shared->Prop) (E:Value->Shared->Prop),
  EnvOk env sc->AOk C A k->RelG C σ s->FrameRel C env m σ s.heap->FOk C A env σ s.heap->T m σ Q X->
  (∀v w σ' s',VRel C.aS s'.heap v w->RelG C σ' s'->Step no σ σ' s.heap s'.heap->Q v σ'->P w s')->AftXc C σ s X E->
  wpAny (model C.prog C.w) A (eval e env) P E s
theorem FOk.fs {A:Around} {env:Env} {m:aq} {σ:ae} {s:Shared} (W:FOk C A env σ s.heap) (F:FrameRel C env m σ s.heap) (hk:env.scope.kind=.function):∃fs,A.frames=some fs/\FrsOk C σ s.heap fs:=by
 refine x1_3 W.frames fun outer h1 h2 h3=>?_
 refine⟨_,h1,fun y hy=>?_⟩
 rcases List.mem_cons.mp hy with rfl | hy
 ·obtain ⟨mm,⟨oL,es,ep,hoL,hdL,_⟩,_⟩:=F.ns
  exact⟨by rw[hk];decide,_,W.frame,F.baseL,F.sepL,oL,es,ep,hoL,hdL⟩
 ·exact h2 y hy
noncomputable def FnAtX (C:Cx) (j:Nat) (f:String) (spec:bE):Prop:=
 ∃a o fd,C.mg (Str.ofString f)=some (.ref a)/\C.hB.get? a=some o/\o.data=.func fd/\FnSoundX C j a spec
@[reducible] noncomputable def xF (spec:bE) (Q:V->ae->Prop) (X:String->ae->Prop):List V->ae->Prop:=fun vs σ=>spec vs σ Q X
@[reducible] noncomputable def sf (spec:bE) (L:LT):gJ:=fun m σ Q X=>L m σ (xF spec Q X)
theorem uP {p:Program} (G:Gl C p) {f:String} {np pos:Pos} {es:List Expr} {L:LT} {spec:bE} {j:Nat} (hf:FnAtX C j f spec) (hj:j < k)
  (hn:sc.names.lookup (Str.ofString f)=some .globalImplicit) (hdb:(Str.ofString f == ("__debug__":Str))=false)
  (hl:HL C sc k es L) (hp:ah es=true):HEX C sc k (.Call (.Name (Str.ofString f) np) es [] pos) (sf spec L):=by
 refine x3_4 hf fun a o fd hg ho hd hf=>?_
 refine⟨?_⟩;intro env A s m σ Q X P E en ao R F W q hP hX
 refine wpAny_Call_NameR (Calls.Name_function_global en.k (en.of hn) (Calls.loadGlobal_global (mg:=C.mg) (by rw[en.globals];exact G.ok.g.keeps R.base) hg ?_) hdb)
 refine Calls.callWith_function (o:=o) (fd:=fd) (au hp (hl.run env A s m σ pos _ _ E en ao R F q fun vs ws σ₁ s₁ hv R₁ S₁ q₁=>⟨⟨R₁.base _ _ ho,hd⟩,?_⟩))
 have W₁:=W.step (S₁.own (env:=env))
 exact wpAny_call (hf A s₁ σ₁ vs ws Q X P E (ao.le hj) (W₁.fs (F.step R S₁) en.k) R₁ hv q₁ (fun v w σ' s' hv' R' S' q'=>hP v w σ' s' hv' R' (S₁.trans S') q') fun c e σ' s' fl R' S' x=>hX c e σ' s' (fl.less S₁.size) R' (S₁.trans S') x)
@[reducible] noncomputable def vE (T:ET) (U:gJ):gJ:=fun m σ Q X=>T m σ fun v σ₁=>U m σ₁ (fun u σ₂=>Q (.tup [v,u]) σ₂) X
theorem AftXc.of {env:Env} {m:aq} {σ:ae} {s:Shared} {X:XT} {E:Value->Shared->Prop} (R:RelG C σ s) (F:FrameRel C env m σ s.heap) (hX:AftX C env σ s X E):AftXc C σ s (fun c σ'=>X c m σ') E:=
 fun c e σ' s' fl R' S' x=>hX c e m σ' s' (fl.mono fun _ h=>.inr (.inl h)) R' (F.step R S') S'.own x
@[reducible] noncomputable def vB (x:String) (T:gJ):bX:=fun m σ Q X=>T m σ (o9 x m Q) (rP m X)
theorem HSX1.set {x:String} {p pos:Pos} {value:Expr} {T:gJ} (hx:Af sc x) (he:HEX C sc k value T) (hs:∀env,EnvOk env sc->swapsWith value (some (.Name (Str.ofString x) p)) pos.line env=pure false):HSX1 C sc k (.Assign [.Name (Str.ofString x) p] value pos) (vB x T):=by
 refine⟨?_⟩;intro env A s m σ Q X P E en ao R F W q hP hX
 refine wpAny_Assign_Name (he.run env A s m σ _ _ _ E en ao R F W q (fun v w σ₁ s₁ hv R₁ S₁ q₁=>?_) (AftXc.of R F hX)) (hs env en)
 exact store en R₁ (F.step R S₁) hx hv fun s₂ R₂ F₂ S₂=>hP .next .next _ σ₁ s₂ .next R₂ F₂ ((S₁.own).trans S₂) q₁
@[reducible] noncomputable def vC (T:gJ):bX:=fun m σ Q X=>T m σ (wf m Q) (rP m X)
theorem HSX1.ret {pos:Pos} {value:Expr} {T:gJ} (he:HEX C sc k value T):HSX1 C sc k (.Return (some value) pos) (vC T):=by
 refine⟨?_⟩;intro env A s m σ Q X P E en ao R F W q hP hX
 exact wpAny_Return_some (he.run env A s m σ _ _ _ E en ao R F W q (fun v w σ₁ s₁ hv R₁ S₁ q₁=>hP (.ret v) (.ret w) m σ₁ s₁ (.ret hv) R₁ (F.step R S₁) S₁.own q₁) (AftXc.of R F hX))
end
set_option maxRecDepth 100000
noncomputable def a8:List Str:=["__init__","__getattribute__","__getattr__","__class__"]
inductive OT (h:Heap):List Value->Prop
 |base:OT h ba
 |own {A:Addr} {c0:Value} {dd:Option Addr} {cd:ClassData} {sl:Array (Option Value)} {mA:Str->Option Value} {tl:List Value} :
   h.get? A=some {cls:=c0,dict:=dd,data:=.cls cd,slots:=sl}->h.Ns cd.ns mA->(∀n∈a8,mA n=none)->OT h tl->OT h (.ref A::tl)
theorem OT.keeps {h h':Heap} {l:List Value} (T:OT h l) (k:∀b o,h.get? b=some o->h'.get? b=some o):OT h' l:=by
 induction T with
 |base=>exact .base
 |own h1 h2 h3 _ ih=>exact .own (k _ _ h1) (h2.keeps k) h3 ih
theorem OT.tail {h:Heap} {l:List Value} (T:OT h l):OwnTail h ba l:=by
 induction T with
 |base=>exact .base
 |own h1 h2 h3 _ ih=>exact .own h1 h2 (h3 _ (.head _)) ih
inductive XC (h:Heap) (Cl:Addr) (bm:List Value):Prop
 |mk (N:Addr) (nm q:Str) (bs:List Value) (hdct:Bool) (sn:List Str) (sub:List Value) (ab:Bool) (col:Option Bool) (dd:Option Addr) (k0 k1 k2 k3 k5:Option Value) (mN:Str->Option Value)
   (h1:h.get? Cl=some (excClassObj nm q Cl N bs bm hdct sn sub ab col dd k0 k1 k2 k3 k5 "ValueError.__new__")) (h2:h.Ns N mN) (h3:∀n∈a8,mN n=none) (h4:OT h bm):XC h Cl bm
theorem XC.keeps {h h':Heap} {Cl:Addr} {bm:List Value} (X:XC h Cl bm) (k:∀b o,h.get? b=some o->h'.get? b=some o):XC h' Cl bm:=by
 obtain ⟨N,nm,q,bs,hdct,sn,sub,ab,col,dd,k0,k1,k2,k3,k5,mN,h1,h2,h3,h4⟩:=X
 exact⟨N,nm,q,bs,hdct,sn,sub,ab,col,dd,k0,k1,k2,k3,k5,mN,k _ _ h1,h2.keeps k,h3,h4.keeps k⟩
section
variable {prog:Program} {w:World} {A:Around} {E:Value->Shared->Prop} {s:Shared} {Cl a:Addr} {bm:List Value} {o:Obj}
theorem nG {l:List Value} {n:Str} {y:Option Value} {Q:Option Value->Shared->Prop} {M:Model} (T:OT s.heap l) (hn:n∈a8) (hrest:lookupAlong ba n=pure y) (hq:Q y s):wpAny M A (lookupAlong l n) Q E s:=by
 induction T with
 |base=>rw[hrest];exact wpAny_pure hq
 |own hA hN h3 _ ih=>
  rw[lookupAlong_cons]
  obtain ⟨h,g,d,t,os⟩:=s
  refine wpAny_bind (wpAny_classOwn_cls hA hN ?_)
  rw[h3 n hn]
  exact ih
theorem gc {n:Str} {y:Option Value} {Q:Option Value->Shared->Prop} {M:Model} (X:XC s.heap Cl bm) (hn:n∈a8) (hB:typeLookup (.type "ValueError") n=pure y) (hq:Q y s):wpAny M A (typeLookup (.ref Cl) n) Q E s:=by
 obtain ⟨N,nm,q,bs,hdct,sn,sub,ab,col,dd,k0,k1,k2,k3,k5,mN,h1,h2,h3,h4⟩:=X
 have hrest:lookupAlong ba n=pure y:=by rw[typeLookup_eq,PySem.F.excBase_ValueError.mroIs] at hB;exact hB
 rw[typeLookup_eq]
 obtain ⟨h,g,d,t,os⟩:=s
 refine wpAny_bind (wpAny_mroOf_exc h1 ?_)
 rw[lookupAlong_cons]
 refine wpAny_bind (wpAny_classOwn_exc h1 h2 ?_)
 rw[h3 n hn]
 exact nG h4 hn hrest hq
theorem cK {base:Value} {Q:Bool->Shared->Prop} {M:Model} (X:XC s.heap Cl bm) (hq:Q ((Value.ref Cl::bm).contains base) s):wpAny M A (isSubtype (.ref Cl) base) Q E s:=by
 obtain ⟨N,nm,q,bs,hdct,sn,sub,ab,col,dd,k0,k1,k2,k3,k5,mN,h1,h2,h3,h4⟩:=X
 obtain ⟨h,g,d,t,os⟩:=s
 exact wpAny_isSubtype_exc h1 hq
theorem jG:typeLookup (.type "ValueError") "__class__"=pure (some (.builtin "object.__class__")):=by rw[typeLookup_type,builtinLookup_eq_fast];kernel_rfl
theorem OT.obj {h:Heap} {l:List Value} (T:OT h l):l.contains (.type "object")=true/\l.contains (.type "BaseException")=true:=by
 induction T with
 |base=>decide
 |own _ _ _ _ ih=>rw[List.contains_cons,List.contains_cons,ih.1,ih.2];simp
theorem XC.obj {h:Heap} (X:XC h Cl bm):bm.contains (.type "object")=true/\bm.contains (.type "BaseException")=true:=by
 obtain ⟨N,nm,q,bs,hdct,sn,sub,ab,col,dd,k0,k1,k2,k3,k5,mN,h1,h2,h3,h4⟩:=X
 exact h4.obj
theorem n5 {R:Result->Shared->Prop} (X:XC s.heap Cl bm) (hx:s.heap.get? a=some o) (hc:o.cls=.ref Cl) (hq:R (.ok (.ret (.ref Cl))) s) :
  codeAny (model prog w) A (.call (.builtin "getset_descriptor.__get__") ⟨[.builtin "object.__class__",.ref a,.ref Cl],[]⟩) R s:=by
 have hT5:s.TypeIs (.builtin "object.__class__") "getset_descriptor":=F.typeOf_object_class
 have hcB:(Value.ref Cl::bm).contains (.type (".".intercalate ("object.__class__".cutAt '.').dropLast))=true:=by rw[F.owner_object_class,List.contains_cons,X.obj.1,Bool.or_true]
 refine codeAny_call_builtin F.slot_gs_get.plain F.entry_gs_get (F.slot_gs_get.check _ _ _ _ _ _ _ _ hT5 (F.args_gs_get _ _ _) ?_)
 repeat (any_goals (first | assumption | (with_reducible refine wpAny_loadPart hx ?_;rw[hc]) | (with_reducible refine cK X ?_;rw[hcB]) | wp_step))
 refine⟨Code.quiet_builtin _ (by decide +kernel),codeAny_builtin F.entry_object_class ?_⟩
 repeat (any_goals (first | assumption | (with_reducible refine wpAny_loadPart hx ?_;rw[hc]) | wp_step))
theorem j7 {tk:Tok} {Q:Fin->Shared->Prop} (X:XC s.heap Cl bm) (hx:s.heap.get? a=some o) (hc:o.cls=.ref Cl) (hq:Q (.done (.ret (.ref Cl))) s) :
  wpAny (model prog w) A (Builtin.«object.__getattribute__» ⟨[.ref a,.str "__class__" tk],[]⟩) Q E s:=by
 have hT5:s.TypeIs (.builtin "object.__class__") "getset_descriptor":=F.typeOf_object_class
 have f5:=F.typeOf_object_class
 have f6:=F.slot_gs_get.lookup
 have f7:=F.slot_gs_set.lookup
 have hm:("__class__":Str)∈a8:=.tail _ (.tail _ (.tail _ (.head _)))
 repeat (any_goals (first | assumption | (with_reducible refine wpAny_loadPart hx ?_;rw[hc]) | with_reducible refine gc X hm jG ?_ | wp_step))
 refine n5 X hx hc ?_
 repeat (any_goals (first | assumption | wp_step))
theorem qw {nameV:Value} {Q:Unit->Shared->Prop} {M:Model} (X:XC s.heap Cl bm) (hx:s.heap.get? a=some o) (hc:o.cls=.ref Cl) (hq:Q () s):wpAny M A (checkBuiltinCall "BaseException.__getattribute__" ⟨[.ref a,nameV],[]⟩) Q E s:=by
 have hk:builtinKind "BaseException.__getattribute__"=some .slot:=by decide +kernel
 have hsplit:splitId "BaseException.__getattribute__"=some ("BaseException","__getattribute__"):=by decide +kernel
 have hcB:(Value.ref Cl::bm).contains (.type "BaseException")=true:=by rw[List.contains_cons,X.obj.2,Bool.or_true]
 have ha:=F.args_bexc_ga (.ref a) nameV
 simp only[checkBuiltinCall,hk,hsplit]
 refine wpAny_bind ?_
 ·unfold isInstance
  repeat (first | (with_reducible refine wpAny_loadPart hx ?_;rw[hc]) | (with_reducible refine cK X ?_;rw[hcB]) | wp_step)
  exact hq
theorem lF {tk:Tok} {R:Result->Shared->Prop} (X:XC s.heap Cl bm) (hx:s.heap.get? a=some o) (hc:o.cls=.ref Cl) (hq:R (.ok (.ret (.ref Cl))) s) :
  codeAny (model prog w) A (.call (.builtin "BaseException.__getattribute__") ⟨[.ref a,.str "__class__" tk],[]⟩) R s:=
 codeAny_call_builtin F.attrBase_ValueError.ga.plain F.entry_bexc_ga (qw X hx hc (j7 X hx hc hq))
theorem qv {tk:Tok} {fill expr:Bool} {Q:Value->Shared->Prop} (X:XC s.heap Cl bm) (hx:s.heap.get? a=some o) (hc:o.cls=.ref Cl) (hq:Q (.ref Cl) s) :
  wpAny (model prog w) A (getAttrBy (.ref a) (.str "__class__" tk) fill expr) Q E s:=by
 have f3:=F.attrBase_ValueError.ga.bind (.ref a)
 have hx0:(expr&&onTheHeap (Value.builtin "BaseException.__getattribute__"))=false:=by cases expr<;>rfl
 have hx2:(Value.builtin "BaseException.__getattribute__" == Value.builtin "object.__getattribute__")=false:=by decide +kernel
 have hx1:(onTheHeap (Value.ref Cl)&&Value.builtin "BaseException.__getattribute__" == Value.builtin "object.__getattribute__")=false:=by rw[hx2];rfl
 have hm1:("__getattribute__":Str)∈a8:=.tail _ (.head _)
 have hm2:("__getattr__":Str)∈a8:=.tail _ (.tail _ (.head _))
 repeat (any_goals (first | assumption | (with_reducible refine wpAny_loadPart hx ?_;rw[hc]) | with_reducible refine gc X hm1 F.attrBase_ValueError.ga.lookup ?_ | with_reducible refine gc X hm2 F.attrBase_ValueError.noGetattr ?_ | wp_step))
 refine lF X hx hc ?_
 repeat (any_goals (first | assumption | wp_step))
theorem lG {Q:Option Value->Shared->Prop} (X:XC s.heap Cl bm) (hx:s.heap.get? a=some o) (hc:o.cls=.ref Cl) (hq:Q (some (.ref Cl)) {s with toks:=s.toks+1}):wpAny (model prog w) A (getAttr? (.ref a) "__class__") Q E s:=by
 obtain ⟨h,g,d,t,os⟩:=s
 dsimp only at X hx hq
 unfold getAttr? getAttrBy?
 repeat (any_goals (first | assumption | with_reducible apply qv (s:=⟨h,g,d,t+1,os⟩) X hx hc | wp_step))
theorem jM {H:Addr} {bm':List Value} {dep:Int} {tk:Tok} {Q:Fin->Shared->Prop} (X:XC s.heap Cl bm) (XH:XC s.heap H bm') (hx:s.heap.get? a=some o) (hc:o.cls=.ref Cl)
  (hq:∀tk',Q (.done (.ret (.bool ((Value.ref Cl::bm).contains (.ref H))))) {s with toks:=tk'}) :
  wpAny (model prog w) A (Builtin.«isinstance.nested» ⟨[.ref a,.ref H,.int dep tk],[]⟩) Q E s:=by
 obtain ⟨N,nm,q,bs,hdct,sn,sub,ab,col,dd,k0,k1,k2,k3,k5,mN,h1,h2,h3,h4⟩:=XH
 have q0:=hq s.toks
 by_cases e:Cl=H
 ·subst e
  have hcc:(Value.ref Cl::bm).contains (.ref Cl)=true:=by simp
  rw[hcc] at q0
  have hee:(Value.ref Cl == Value.ref Cl)=true:=by simp
  repeat (any_goals (first | assumption | (with_reducible refine wpAny_loadPart hx ?_;rw[hc]) | wp_step))
 ·have hne:(Value.ref Cl == Value.ref H)=false:=by simpa using e
  obtain ⟨h,g,d,t,os⟩:=s
  dsimp only at X hx hq h1
  have hTH:(⟨h,g,d,t,os⟩:Shared).TypeIs (.ref H) "type":=⟨_,h1,rfl⟩
  cases hb:(Value.ref Cl::bm).contains (.ref H) with
  |true=>
   rw[hb] at hq
   repeat (any_goals (first | exact hq _ | assumption | (with_reducible refine wpAny_loadPart_at hx ?_;rw[hc]) | (with_reducible refine wpAny_loadPart_at h1 ?_) | (with_reducible refine cK (s:=⟨h,g,d,t,os⟩) X ?_;rw[hb]) | wp_step))
  |false=>
   rw[hb] at hq
   repeat (any_goals (first | exact hq _ | assumption | (with_reducible refine wpAny_loadPart_at hx ?_;rw[hc]) | (with_reducible refine wpAny_loadPart_at h1 ?_) | (with_reducible refine cK (s:=⟨h,g,d,t,os⟩) X ?_;rw[hb]) | with_reducible apply lG (s:=⟨h,g,d,t,os⟩) X hx hc | wp_step))
   obtain ⟨N',nm',q',bs',hdct',sn',sub',ab',col',dd',l0,l1,l2,l3,l5,mN',hCl,_⟩:=id X
   refine wpAny_loadPart_at hCl (wpAny_pure ?_)
   dsimp only
   rw[if_neg (by decide)]
   refine wpAny_bind (wpAny_rule (cK (s:=⟨h,g,d,t+1,os⟩) X ?_))
   rw[hb]
   exact wpAny_pure (hq _)
end
noncomputable def dU:Obj:={cls:=.none,dict:=none,data:=.freed}
noncomputable def aY (h:Heap) (e:Addr) (o:Obj):Heap:=if e < h.objs.size then ⟨h.objs.setIfInBounds e o,h.life⟩ else ⟨(h.objs++Array.replicate (e-h.objs.size) dU).push o,h.life⟩
theorem a0 {h:Heap} {e:Addr} {o:Obj} (hz:h.get? e=none) (ho:o.isFreed=false) (b:Addr):(aY h e o).get? b=if b=e then some o else h.get? b:=by
 have at_:(aY h e o).objs[e]?=some o:=by
  unfold aY
  split
  ·rename_i q
   show (h.objs.setIfInBounds e o)[e]?=some o
   rw[Array.getElem?_setIfInBounds_self_of_lt q]
  ·rename_i q
   have sz:(h.objs++Array.replicate (e-h.objs.size) dU).size=e:=by
    rw[Array.size_append,Array.size_replicate]
    exact Nat.add_sub_cancel' (Nat.le_of_not_lt q)
   show ((h.objs++Array.replicate (e-h.objs.size) dU).push o)[e]?=some o
   rw[Array.getElem?_push,sz,if_pos rfl]
 have other:b≠e->∀x,x.isFreed=false->((aY h e o).objs[b]?=some x↔h.objs[b]?=some x):=by
  intro hb x hf
  unfold aY
  split
  ·show (h.objs.setIfInBounds e o)[b]?=some x↔_
   rw[Array.getElem?_setIfInBounds_ne (Ne.symm hb)]
  ·rename_i q
   have sz:(h.objs++Array.replicate (e-h.objs.size) dU).size=e:=by
    rw[Array.size_append,Array.size_replicate]
    exact Nat.add_sub_cancel' (Nat.le_of_not_lt q)
   show ((h.objs++Array.replicate (e-h.objs.size) dU).push o)[b]?=some x↔_
   rw[Array.getElem?_push,sz,if_neg hb,Array.getElem?_append]
   split
   ·exact Iff.rfl
   ·rename_i q2
    rw[Array.getElem?_replicate,Array.getElem?_eq_none (Nat.le_of_not_lt q2)]
    split
    ·exact⟨fun z=>(by cases Option.some.inj z;cases hf),fun z=>(by cases z)⟩
    ·exact Iff.rfl
 by_cases hb:b=e
 ·rw[if_pos hb,hb]
  exact Heap.get?_some_iff.mpr ⟨at_,ho⟩
 ·rw[if_neg hb]
  cases hg:h.get? b with
  |some x=>
   obtain ⟨h1,h2⟩:=Heap.get?_some_iff.mp hg
   exact Heap.get?_some_iff.mpr ⟨(other hb x h2).mpr h1,h2⟩
  |none=>
   cases hq:(aY h e o).get? b with
   |none=>rfl
   |some x=>
    obtain ⟨h1,h2⟩:=Heap.get?_some_iff.mp hq
    have:=Heap.get?_some_iff.mpr ⟨(other hb x h2).mp h1,h2⟩
    rw[hg] at this;cases this
noncomputable def Cx.hold (C:Cx) (e:Addr) (o:Obj):Cx:={C with s₁:={C.s₁ with heap:=aY C.s₁.heap e o},held:=some e}
section
variable {C:Cx} {e:Addr} {o:Obj} {σ:ae} {s:Shared} {env:Env} {m:aq} {p:Program} {vs:Array Value}
theorem aN (hz:C.hB.get? e=none) (ho:o.isFreed=false):∀b x,C.hB.get? b=some x->(C.hold e o).hB.get? b=some x:=fun b x h=>by
 show (aY C.hB e o).get? b=some x
 rw[a0 hz ho,if_neg (by rintro rfl;rw[hz] at h;cases h)];exact h
theorem mE (hz:C.hB.get? e=none) (ho:o.isFreed=false):(C.hold e o).hB.get? e=some o:=by
 show (aY C.hB e o).get? e=some o
 rw[a0 hz ho,if_pos rfl]
theorem RelG.hold (R:RelG C σ s) (hz:C.hB.get? e=none) (ho:o.isFreed=false) (he:s.heap.get? e=some o) (hs:σ e=none):RelG (C.hold e o) σ s:=by
 refine⟨let ⟨h,tk,d,q⟩:=R.rest;⟨h,tk,d,by rw[q];rfl⟩,fun b x h=>?_,fun a x h=>?_,fun a h=>?_⟩
 ·have h':(aY C.hB e o).get? b=some x:=h
  rw[a0 hz ho] at h'
  split at h'
  ·rename_i q;cases Option.some.inj h';rw[q];exact he
  ·exact R.base b x h'
 ·have:=R.view a x h
  cases x<;>exact this
 ·show (aY C.hB e o).get? a=none
  rw[a0 hz ho,if_neg (by rintro rfl;exact h hs)];exact R.apart a h
theorem RelG.drop (R:RelG (C.hold e o) σ s) (hz:C.hB.get? e=none) (ho:o.isFreed=false):RelG C σ s:=by
 refine⟨let ⟨h,tk,d,q⟩:=R.rest;⟨h,tk,d,by rw[q];rfl⟩,fun b x h=>R.base b x (aN hz ho b x h),fun a x h=>?_,fun a h=>?_⟩
 ·have:=R.view a x h
  cases x<;>exact this
 ·have:(aY C.hB e o).get? a=none:=R.apart a h
  rw[a0 hz ho] at this
  split at this
  ·cases this
  ·exact this
theorem FrameRel.hold (F:FrameRel C env m σ s.heap) (hz:C.hB.get? e=none) (ho:o.isFreed=false) (he:s.heap.get? e=some o) (hd:o.data=.fields vs):FrameRel (C.hold e o) env m σ s.heap:=by
 refine⟨F.ns,F.cel,F.cells,F.sepL,?_,fun n c hc=>?_,F.dist,F.has⟩
 ·show (aY C.hB e o).get? env.locals=none
  rw[a0 hz ho,if_neg ?_];rotate_left
  ·exact F.baseL
  ·rintro q
   obtain ⟨mm,⟨oL,es,ep,hoL,hdL,_⟩,_⟩:=F.ns
   rw[q,he] at hoL;cases Option.some.inj hoL;rw[hd] at hdL;cases hdL
 ·show (aY C.hB e o).get? c=none
  rw[a0 hz ho,if_neg ?_];rotate_left
  ·exact F.baseC n c hc
  ·rintro q
   refine x2_2 (F.cells n c hc) fun v oc hoc hdc=>?_
   rw[q,he] at hoc;cases Option.some.inj hoc;rw[hd] at hdc;cases hdc
theorem FrameRel.drop (F:FrameRel (C.hold e o) env m σ s.heap) (hz:C.hB.get? e=none) (ho:o.isFreed=false):FrameRel C env m σ s.heap:=by
 have dr:∀b,(C.hold e o).hB.get? b=none->C.hB.get? b=none:=fun b h=>by
  cases q:C.hB.get? b with
  |none=>rfl
  |some x=>rw[aN hz ho b x q] at h;cases h
 exact⟨F.ns,F.cel,F.cells,F.sepL,dr _ F.baseL,fun n c hc=>dr _ (F.baseC n c hc),F.dist,F.has⟩
theorem Cx.Ok.hold (O:C.Ok) (hz:C.hB.get? e=none) (ho:o.isFreed=false) (hd:o.data=.fields vs) (h2:vs[2]?=some .none):(C.hold e o).Ok where
 g:=O.g.keeps (aN hz ho)
 b:=O.b.keeps (aN hz ho)
 nolimit:=O.nolimit.keeps (aN hz ho)
 mods:=let ⟨x,hx⟩:=O.mods;⟨x,aN hz ho _ _ hx⟩
 few:=O.few
 heldOk:=fun e' h=>by
  have:e'=e:=by
   have h':some e=some e':=h
   cases Option.some.inj h';rfl
  subst this
  exact⟨o,vs,mE hz ho,hd,h2⟩
 script:=let ⟨ws,h1,h2,h3⟩:=O.script;⟨ws,h1.at fun x hx=>aN hz ho _ _ hx,h2,h3⟩
theorem Gl.hold (G:Gl C p) (hz:C.hB.get? e=none) (ho:o.isFreed=false) (hd:o.data=.fields vs) (h2:vs[2]?=some .none):Gl (C.hold e o) p where
 ok:=G.ok.hold hz ho hd h2
 mb:=G.mb
 free:=G.free
 fn:=fun d hd'=>by
  obtain ⟨a,o',pm,code,doc,h1,h2',h3,h4⟩:=G.fn d hd'
  exact⟨a,o',pm,code,doc,h1,aN hz ho _ _ h2',h3,h4.keeps (aN hz ho)⟩
end
section
variable {prog:Program} {w:World} {A:Around} {E:Value->Shared->Prop} {s:Shared} {Cl H a:Addr} {bm bmH:List Value} {o:Obj} {M:Model}
theorem jF {Q:Bool->Shared->Prop} (X:XC s.heap Cl bm) (XH:XC s.heap H bmH) (hx:s.heap.get? a=some o) (hc:o.cls=.ref Cl) (hq:Q ((Value.ref Cl::bm).contains (.ref H)) s) :
  wpAny M A (excMatches (.ref a) (.ref H)) Q E s:=by
 have hcB:(Value.ref H::bmH).contains (.type "BaseException")=true:=by rw[List.contains_cons,XH.obj.2,Bool.or_true]
 obtain ⟨N,nm,q,bs,hdct,sn,sub,ab,col,dd,k0,k1,k2,k3,k5,mN,h1,h2,h3,h4⟩:=id XH
 have f:=tc_notTuple
 obtain ⟨h,g,d,t,os⟩:=s
 dsimp only at X XH hx h1
 unfold excMatches
 repeat (first | (with_reducible refine wpAny_loadPart_at hx ?_;rw[hc]) | with_reducible refine wpAny_loadPart_at h1 ?_ | (with_reducible refine wpAny_isSubtype_exc h1 ?_;rw[hcB]) | (with_reducible refine cK (s:=⟨h,g,d,t,os⟩) X ?_) | wp_step)
 cases hb:(Value.ref Cl::bm).contains (.ref H)<;>(rw[hb] at hq;wp_walk;exact hq)
end
noncomputable def cut (m:aq) (x:String):aq:=fun y=>if y=x then Option.none else m y
section
variable {C:Cx} {sc:Scope} {k:Nat}
theorem s8 {env:Env} {A:Around} {s:Shared} {m:aq} {σ:ae} {x:String} {pos:Pos} {P:Unit->Shared->Prop} {E:Value->Shared->Prop} (en:EnvOk env sc) (R:RelG C σ s) (F:FrameRel C env m σ s.heap)
  (hl:sc.names.lookup (Str.ofString x)=some .local)
  (h:∀s',RelG C σ s'->FrameRel C env (cut m x) σ s'.heap->Step (dZ env) σ σ s.heap s'.heap->P () s'):wpAny (model C.prog C.w) A (do bindName env (Str.ofString x) .none;unbindBehindTheSuite env (Str.ofString x) pos) P E s:=by
 refine wpAny_bind (wpAny_bindName (bf en R F hl (v:=.none) .none fun s₁ R₁ F₁ S₁=>?_))
 unfold unbindBehindTheSuite
 refine wpAny_onRaise ?_
 refine x1_2 F₁.ns fun mm hn hm=>?_
 obtain ⟨w,hw,_⟩:=hm x .none (by simp) (en.of hl)
 refine wpAny_unbindName_local (en.of hl) hn hw (by rw[en.k];rfl) fun h' u hn' hs'=>?_
 refine x3_3 (id hn) fun oL esL epL hoL hdL _=>?_
 have kt:ar s₁.heap h':=fun b o e ht=>(hs'.2 b (by rintro rfl;rw[hoL] at e;cases Option.some.inj e;obtain ⟨_,_,_,hd⟩:=ht;rw[hdL] at hd;cases hd)).trans e
 have kc:∀c v,s₁.heap.IsCell c v->h'.IsCell c v:=fun c v ⟨o,ho,hd⟩=>⟨o,(hs'.2 c (by rintro rfl;rw[hoL] at ho;cases Option.some.inj ho;rw[hdL] at hd;cases hd)).trans ho,hd⟩
 have cutm:∀y v,cut m x y=some v->y≠x/\put m x .none y=some v:=fun y v e=>by
  unfold cut at e
  split at e
  ·cases e
  ·rename_i q;exact⟨q,by rw[aj q];exact e⟩
 refine h _ ?_ ?_ ?_
 ·refine⟨let ⟨_,tk,d,e⟩:=R₁.rest;⟨h',tk,d,by rw[e]⟩,fun b o e=>?_,fun a o e=>?_,R₁.apart⟩
  ·exact (hs'.2 b (by rintro rfl;rw[F.baseL] at e;cases e)).trans (R₁.base b o e)
  ·exact (R₁.view a o e).keep kt fun o' e'=>(hs'.2 a (by rintro rfl;rw[F.sepL] at e;cases e)).trans e'
 ·refine⟨⟨_,hn',fun y v e ky=>?_⟩,fun y v e=>?_,fun n c e=>?_,F.sepL,F.baseL,F.baseC,F.dist,F.has⟩
  ·refine bH (cutm y v e) fun hy e'=>?_
   refine x1_2 (hm y v e' ky) fun w' h1 h2=>?_
   exact⟨w',by simp[show ¬Str.ofString y=Str.ofString x from fun z=>hy (aX z),h1],h2.keep kt⟩
  ·refine bH (cutm y v e) fun hy e'=>?_
   rcases F₁.cel y v e' with z | ⟨z,c,w',h1,h2,h3⟩
   ·exact .inl z
   ·exact .inr ⟨z,c,w',h1,kc _ _ h2,h3.keep kt⟩
  ·refine x1_1 (F₁.cells n c e) fun v hv=>?_;exact⟨v,kc _ _ hv⟩
 ·exact (S₁.mono fun _ _ _ z=>.inl z).trans (.of (fun b o e n q=>(hs'.2 b fun z=>q (.inl z)).trans e) (Nat.le_of_eq hs'.1.symm) fun _ a b=>absurd a b)
noncomputable def Ae (C:Cx) (cs:List String) (Ch:Addr):Prop:=∀c∈cs,∃Cc bm,C.mg (Str.ofString c)=some (.ref Cc)/\XC C.hB Cc bm/\(Value.ref Cc::bm).contains (.ref Ch)=true
@[reducible] noncomputable def s5 (n:String) (cs:List String) (T:bX) (U:Addr->String->ST):bX:=fun m σ Q X=>T m σ Q fun c m' σ'=>c∈cs/\∀e,σ' e=Option.none->U e c (put m' n (.ref e)) σ' fun f m'' σ''=>Q f (cut m'' n) σ''
theorem lM (O:C.Ok) (hz:C.held=Option.none) {body:List Stmt} {H n:String} {b₀:Stmt} {suite:List Stmt} {np hpos pos:Pos} {T:bX} {U:Addr->String->ST} {cs:List String} {Ch:Addr} {bmH:List Value} (hb:HSX C sc k body T)
  (hn:sc.names.lookup (Str.ofString H)=some .globalImplicit) (hdb:(Str.ofString H == ("__debug__":Str))=false) (hgH:C.mg (Str.ofString H)=some (.ref Ch)) (XH:XC C.hB Ch bmH) (hvar:sc.names.lookup (Str.ofString n)=some .local) (hcl:Ae C cs Ch)
  (hs:∀(e:Addr) (o:Obj) (vs:Array Value) (c:String) (Cc:Addr),c∈cs->C.mg (Str.ofString c)=some (.ref Cc)->C.hB.get? e=Option.none->o.isFreed=false->o.cls=.ref Cc->o.data=.fields vs->vs[2]?=some .none->HS (C.hold e o) sc k (b₀::suite) (U e c)) :
  HSX1 C sc k (.Try body [.ExceptHandler (some (.Name (Str.ofString H) np)) (some (Str.ofString n)) (b₀::suite) hpos] [] [] pos) (s5 n cs T U):=by
 refine⟨?_⟩;intro env A s m σ Q X P E en ao R F W q hP hX
 have hbase:∀b o,C.hB.get? b=some o->b < s.heap.objs.size:=fun b o e=>Heap.lt_size (R.base b o e)
 refine wpAny_Try_except (hb.run env A s m σ _ _ _ _ en ao R F W q (fun f g m₁ σ₁ s₁ hf R₁ F₁ S₁ q₁=>?_) (fun c e m₁ σ₁ s₁ fl R₁ F₁ S₁ x=>?_))
 ·cases hf with
  |next=>exact wpAny_execs_nil (hP _ _ m₁ σ₁ s₁ .next R₁ F₁ S₁ q₁)
  |brk=>exact hP _ _ m₁ σ₁ s₁ .brk R₁ F₁ S₁ q₁
  |cont=>exact hP _ _ m₁ σ₁ s₁ .cont R₁ F₁ S₁ q₁
  |ret hv=>exact hP _ _ m₁ σ₁ s₁ (.ret hv) R₁ F₁ S₁ q₁
 ·refine bH x fun hc x=>?_
  refine x2_3 (hcl c hc) fun Cc bm hg XCc hsub=>?_
  have WW:Way C A env c e σ s.heap m₁ σ₁ s₁ (nA env):=⟨fl,R₁,F₁,S₁,W.step S₁⟩
  refine WW.note en.k hbase rfl fun s₂ W₂=>?_
  refine (W₂.mono fun x hx=>by rw[hx];simp).flight en.k hbase fun s₃ W₃=>?_
  refine wpAny_handleBy_cons (codeAny_handlers_test ?_) (by intro z;cases z)
  obtain ⟨oe,vs,Cl,he,hmg,hcls,hd,h2,h2s,hT⟩:=W₃.fly.obj
  rw[hg] at hmg;cases Option.some.inj hmg
  refine Calls.Name_function_global en.k (en.of hn) (Calls.loadGlobal_global (mg:=C.mg) (by rw[en.globals];exact O.g.keeps W₃.rel.base) hgH ?_) hdb
  refine jF (XCc.keeps W₃.rel.base) (XH.keeps W₃.rel.base) he hcls ?_
  rw[hsub]
  refine codeAny_handlers_suite_as ?_
  refine (W₃.mono fun x hx=>by rw[hx];simp).flight en.k hbase fun s₄ W₄=>?_
  refine bf en W₄.rel W₄.frame hvar (.ref e) fun s₅ R₅ F₅ S₅=>?_
  obtain ⟨oe,vs,Cl,he,hmg,hcls,hd,h2,h2s,hT⟩:=W₄.fly.obj
  rw[hg] at hmg;cases Option.some.inj hmg
  have hse:=W₄.fly.sep
  have hez:C.hB.get? e=Option.none:=R.baseNone (ai W₄.fly.new)
  have hof:oe.isFreed=false:=Obj.isFreed_of_fields hd
  have hne:e≠env.locals:=by
   rintro z
   obtain ⟨mm,⟨oL,es,ep,hoL,hdL,_⟩,_⟩:=W₄.frame.ns
   rw[<-z,he] at hoL;cases Option.some.inj hoL;rw[hd] at hdL;cases hdL
  have he₅:s₅.heap.get? e=some oe:=S₅.keep e oe he hse hne (fun es ep z=>by rw[hd] at z;cases z)
  have R₅':=R₅.hold hez hof he₅ hse
  have F₅':=F₅.hold hez hof he₅ hd
  have ao':AOk (C.hold e oe) (A.mark (some (.ref e))) k:=⟨rfl,ao.depth,ao.units⟩
  refine (hs e oe vs c Cc hc hg hez hof hcls hd h2).run env _ s₅ _ σ₁ _ _ _ en ao' R₅' F₅' (x e hse) fun f g m₆ σ₆ s₆ hf R₆ F₆ S₆ q₆=>?_
  refine s8 en (R₆.drop hez hof) (F₆.drop hez hof) hvar fun s₇ R₇ F₇ S₇=>?_
  have SS:Step (dZ env) σ σ₆ s.heap s₇.heap:=((W₄.step.trans (S₅.mono fun _ _ _ z=>.inl z)).trans S₆).trans S₇
  refine hP f g (cut m₆ n) σ₆ s₇ ?_ R₇ F₇ SS q₆
  cases hf with
  |next=>exact .next
  |brk=>exact .brk
  |cont=>exact .cont
  |ret hv=>exact .ret (hv.keep (S₇.tupsO (F₆.drop hez hof) (R₆.drop hez hof)))
end
section
variable {prog:Program} {w:World} {A:Around} {E:Value->Shared->Prop} {s:Shared} {Cl H a:Addr} {bm bmH:List Value} {o:Obj}
theorem iI {Q:Value->Shared->Prop} (X:XC s.heap Cl bm) (XH:XC s.heap H bmH) (hx:s.heap.get? a=some o) (hc:o.cls=.ref Cl) (hq:∀tk',Q (.bool ((Value.ref Cl::bm).contains (.ref H))) {s with toks:=tk'}) :
  wpAny (model prog w) A (call (.builtin "isinstance") [.ref a,.ref H]) Q E s:=
 call_isinstance (S:=fun _ R s'=>s'=s/\∀tk',R (.ok (.ret (.bool ((Value.ref Cl::bm).contains (.ref H))))) {s with toks:=tk'})
  (fun _ _ _ _ s' hs=>by obtain ⟨rfl,hs⟩:=hs;exact isinstance_outer (jM X XH hx hc fun tk'=>hs tk') (by intro e;cases e)) ⟨rfl,fun tk'=>hq tk'⟩
end
section
variable {C:Cx} {sc:Scope} {k:Nat} {p:Program}
noncomputable def gV (e:Addr) (c:V) (b:Bool):aK:=fun vs σ Q=>vs=[.ref e,c]/\Q (.bool b) σ
theorem tU {e Cc H:Addr} {o:Obj} {bm bmH:List Value} {b:Bool} (he:C.hB.get? e=some o) (hc:o.cls=.ref Cc) (X:XC C.hB Cc bm) (XH:XC C.hB H bmH) (hb:(Value.ref Cc::bm).contains (.ref H)=b):OpN C k (fun ws=>PySem.call (.builtin "isinstance") ws) (gV e (.ref H) b):=by
 rintro A s σ vs ws Q P E ao R hv ⟨rfl,q⟩ hP
 obtain ⟨wa,wb,rfl,h1,h2⟩:=hv.inv2
 obtain rfl:=h1.invRef;obtain rfl:=h2.invRef
 refine iI (X.keeps R.base) (XH.keeps R.base) (R.base _ _ he) hc fun tk'=>?_
 rw[hb]
 exact hP _ _ σ _ (.bool b) (R.tok _) Step.refl q
theorem uS (G:Gl C p) {n K:String} {H:Addr} {e:Addr} {b:Bool} {np p1 p2 pos:Pos} (hop:OpN C k (fun ws=>PySem.call (.builtin "isinstance") ws) (gV e (.ref H) b)) (hi:sc.names.lookup (Str.ofString "isinstance")=some .globalImplicit)
  (hn:sc.names.lookup (Str.ofString n)=some .local) (hnd:(Str.ofString n == ("__debug__":Str))=false) (hk:sc.names.lookup (Str.ofString K)=some .globalImplicit) (hkd:(Str.ofString K == ("__debug__":Str))=false) (hg:C.mg (Str.ofString K)=some (.ref H)) :
  HE C sc k (.Call (.Name (Str.ofString "isinstance") np) [.Name (Str.ofString n) p1,.Name (Str.ofString K) p2] [] pos) (bv (gV e (.ref H) b) (bV (aO n) (bV (br (.ref H)) iF))):=
 HE.builtin G.ok hop hi (G.free _ (by decide)) (G.blt qA (by decide)) rfl (HL.cons (HE.name hn hnd) (HL.cons (i0 G.ok (v:=.ref H) hk hg (fun _=>.ref _) hkd) HL.nil rfl) rfl) rfl
@[simp] theorem zO {e:Addr} {c:V} {b:Bool} {σ:ae} {Q:V->ae->Prop}:gV e c b [.ref e,c] σ Q=Q (.bool b) σ:=propext ⟨fun h=>h.2,fun h=>⟨rfl,h⟩⟩
theorem FnAtX.mk (G:Gl C p) (i n:Nat) {f:String} {xs:List String} {j:Nat} {spec:bE} {T:bX}
  (hm:(recsOf p)[i]?=some ⟨Str.ofString f,iC p n,eN p n,aP p n,sC p n⟩)
  (hk:(aP p n).kind=.function) (hfr:((aP p n).names.all fun q=>q.2 != .free)=true) (hco:(aP p n).isCoroutine=false) (hgen:(aP p n).isGenerator=false)
  (hbind:∀(ws:List Value) (pm code doc:Value),ws.length=xs.length->bindArgs (docDef (Str.ofString f) (iC p n) (eN p n) (aP p n) pm code doc) ⟨ws,[]⟩=pure ((xs.map Str.ofString).zip ws))
  (hloc:(xs.all fun x=>(aP p n).names.lookup (Str.ofString x) == some .local||(aP p n).names.lookup (Str.ofString x) == some .cell)=true)
  (hT:HSX C (aP p n) j (eN p n) T)
  (hspec:∀vs σ Q X,spec vs σ Q X->vs.length=xs.length/\T (bD xs vs cZ) σ (fin Q) (fun c _ σ'=>X c σ')):FnAtX C j f spec:=by
 obtain ⟨a,o,pm,code,doc,h1,h2,h3,h4⟩:=G.fn _ (List.mem_of_getElem? hm)
 refine⟨a,o,_,h1,h2,h3,FnSoundX.mk G.ok (xs:=xs) h2 h3 h4 rfl rfl rfl rfl rfl hk ?_ hco hgen (fun ws hw=>hbind ws pm code doc hw) ?_ hT hspec⟩
 ·intro q hq
  have:=List.all_eq_true.mp hfr q hq
  simpa using this
 ·intro x hx
  have:=List.all_eq_true.mp hloc x hx
  simp only[Bool.or_eq_true,beq_iff_eq] at this
  exact this
noncomputable def oY:bE:=fun vs σ Q _=>vs=[.script]/\(∀a,σ a=Option.none)/\∀σ',Q (.bool true) σ'
theorem nI (hz:C.held=Option.none) {f:Addr} {j:Nat} {r:OpenLaw} {args:List WData} {cl:Str->Option Addr} {mean:ExcName->Option Value} (hf:FnSoundX C j f oY) (hj:j<=100) (hg:C.s₁.gens=#[])
  (hn:∀cls,r.row.claim.raises args cls=false) (hp:r.row.claim.post args (.bool true) args=true) :
  codeAny (model C.prog C.w) callerA (.call (.ref f) ⟨[.ref C.aS],[]⟩) (GoodWG r.row.claim cl mean args C.s₁) C.s₁:=by
 refine codeAny_mono (hf callerA C.s₁ (fun _=>Option.none) [.script] [.ref C.aS] (fun v σ=>v=.bool true) (fun _ _=>False) (fun w s'=>w=.bool true/\∃σ',RelG C σ' s') (fun _ _=>False) ⟨by rw[hz];rfl,?_,?_⟩ ⟨[],rfl,fun y hy=>by cases hy⟩ ⟨⟨_,_,_,rfl⟩,fun _ _ e=>e,fun _ _ e=>by (cases e),fun _ e=>absurd rfl e⟩ (.cons .script .nil) ⟨rfl,fun _=>rfl,fun _=>rfl⟩ ?_ (fun _ _ _ _ _ _ _ h=>h)) ?_
 ·show 1+claimMargin+3*(j+1)+3 < recursionLimit
  have:claimMargin=300:=rfl
  have:recursionLimit=1000:=rfl
  omega
 ·show 4+10*(j+1)+20 < cLine
  unfold cLine
  exact sK fun hg=>lN [j] 0xa04241a844084004d583084641048a rfl hj hg
 ·intro v w σ' s' hv R' S' q
  subst q
  cases hv with | bool b=>exact⟨rfl,σ',R'⟩
 ·intro res s' h
  cases res with
  |error e=>exact h.elim
  |ok fl=>
   cases fl with
   |ret v=>
    obtain ⟨rfl,σ',R'⟩:=h
    refine x3_1 R'.rest fun h₁ tk d₁ e=>?_
    refine GoodW.toG ⟨.inl ⟨_,.bool true,[],rfl,hn,.bool true,hp,fun _=>⟨List.nodup_nil,fun a h=>by cases h⟩⟩,R'.base,?_,?_⟩
    ·rw[e]
    ·rw[e];exact hg
   |_=>exact h.elim
end
noncomputable def rh (K:Frag):List Value->Bool
 |[]=>false
 |v::r=>(v::r) == ba||match v with
  |.ref A=>(match K.lookup A with
   |some ⟨_,_,.cls cd,_⟩=>nsOkIn K cd.ns&&a8.all (fun n=>nsIn K cd.ns n == some none)&&rh K r
   |_=>false)
  |_=>false
theorem jw {K:Frag} {h:Heap} (X:K.In h):∀{l:List Value},rh K l=true->OT h l
 |[],e=>by cases e
 |v::r,e=>by
  unfold rh at e
  rcases Bool.or_eq_true_iff.mp e with q | q
  ·rw[beq_iff_eq.mp q];exact .base
  ·split at q
   ·split at q
    ·rename_i ho
     simp only[Bool.and_eq_true] at q
     refine .own (X _ _ ho) (.of_isNs (isNs_of_in X q.1.1)) (fun n hn=>nsMap_none_of_in X q.1.1 ?_) (jw X q.2)
     exact beq_iff_eq.mp (List.all_eq_true.mp q.1.2 n hn)
    ·cases q
   ·cases q
noncomputable def qR (K:Frag) (C:Addr) (bm:List Value):Bool:=match K.lookup C with
 |some o=>o.cls == .type "type"&&(o.slots[4]? == some (some (.builtin "ValueError.__new__"))&&o.slots.size == 6)&&match o.data with
  |.cls cd=>cd.mro == .ref C::bm&&!cd.hasDel&&rh K bm&&nsOkIn K cd.ns&&a8.all (fun n=>nsIn K cd.ns n == some none)
  |_=>false
 |none=>false
theorem mZ {sl:Array (Option Value)} {v:Option Value} (h4:sl[4]?=some v) (h6:sl.size=6):∃k0 k1 k2 k3 k5,sl=#[k0,k1,k2,k3,v,k5]:=by
 obtain ⟨l⟩:=sl
 simp only[List.size_toArray] at h6
 rcases l with _ | ⟨k0,_ | ⟨k1,_ | ⟨k2,_ | ⟨k3,_ | ⟨k4,_ | ⟨k5,_ | ⟨k6,r⟩⟩⟩⟩⟩⟩⟩<;>first | cases h6 | skip
 simp at h4
 subst h4
 exact⟨k0,k1,k2,k3,k5,rfl⟩
theorem i8 {K:Frag} {h:Heap} {C:Addr} {bm:List Value} (X:K.In h) (q:qR K C bm=true):XC h C bm:=by
 unfold qR at q
 cases ho:K.lookup C with
 |none=>rw[ho] at q;cases q
 |some o=>
  rw[ho] at q
  obtain ⟨oc,od,da,sl⟩:=o
  cases da with
  |cls cd=>
   simp only[Bool.and_eq_true,beq_iff_eq,Bool.not_eq_true'] at q
   obtain ⟨⟨rfl,h4,h6⟩,⟨⟨⟨hm,hdel⟩,ht⟩,hok⟩,hni⟩:=q
   obtain ⟨k0,k1,k2,k3,k5,rfl⟩:=mZ h4 h6
   obtain ⟨nm,bs,mro,ns,qn,hd,sn,sub,ab,col,AQ⟩:=cd
   dsimp only at hm hdel hok hni
   subst hm hdel
   exact⟨ns,nm,qn,bs,hd,sn,sub,ab,col,od,k0,k1,k2,k3,k5,_,X _ _ ho,.of_isNs (isNs_of_in X hok),fun n hn=>nsMap_none_of_in X hok (beq_iff_eq.mp (List.all_eq_true.mp hni n hn)),jw X ht⟩
  |_=>simp at q
theorem XC.own {h:Heap} {Cl:Addr} {bm:List Value} {mg:Str->Option Value} {x:Str} (X:XC h Cl bm) (hg:mg x=some (.ref Cl)):OwnCls x Cl ba "ValueError.__new__" mg h:=by
 obtain ⟨N,nm,q,bs,hdct,sn,sub,ab,col,dd,k0,k1,k2,k3,k5,mN,h1,h2,h3,h4⟩:=X
 exact⟨hg,bm,N,nm,q,bs,hdct,sn,sub,ab,col,dd,k0,k1,k2,k3,k5,mN,h1,h2,h3 _ (.head _),h4.tail⟩
noncomputable def tm (c k:String):Bool:=c == k||k == "RoadError"
structure XTab (C:Cx) (cs ks:List String) (ad:String->Addr):Prop where
 at_:∀k∈ks,C.mg (Str.ofString k)=some (.ref (ad k))/\∃bm,XC C.hB (ad k) bm
 sub:∀c∈cs,∃bm,C.mg (Str.ofString c)=some (.ref (ad c))/\XC C.hB (ad c) bm/\bm.contains (.type "ValueError")=true/\∀k∈ks,(Value.ref (ad c)::bm).contains (.ref (ad k))=tm c k
 ve:C.mg (Str.ofString "ValueError")=Option.none
section
variable {C:Cx} {sc:Scope} {k:Nat} {p:Program} {cs ks:List String} {ad:String->Addr}
theorem r0 (G:Gl C p) (hz:C.held=Option.none) (Tb:XTab C cs ks ad) {c:String} (hc:c∈cs) {x:Str} {n:Nat} {np ap cpos pos:Pos} (hn:sc.names.lookup (Str.ofString c)=some .globalImplicit) (hdb:(Str.ofString c == ("__debug__":Str))=false) :
  HSX1 C sc k (.Raise (some (.Call (.Name (Str.ofString c) np) [.Constant (.str x) n ap] [] cpos)) Option.none pos) (ko c):=by
 refine x1_3 (Tb.sub c hc) fun bm h1 h2 _=>?_
 exact lO G.ok hz (h2.own h1) hn hdb
theorem uM (G:Gl C p) (hz:C.held=Option.none) (Tb:XTab C cs ks ad) {body:List Stmt} {H n:String} {b₀:Stmt} {suite:List Stmt} {np hpos pos:Pos} {T:bX} {U:Addr->String->ST} (hb:HSX C sc k body T) (hH:H∈ks) (hsub:(cs.all fun c=>tm c H)=true)
  (hn:sc.names.lookup (Str.ofString H)=some .globalImplicit) (hdb:(Str.ofString H == ("__debug__":Str))=false) (hvar:sc.names.lookup (Str.ofString n)=some .local)
  (hs:∀(e:Addr) (o:Obj) (vs:Array Value) (c:String),c∈cs->C.hB.get? e=Option.none->o.isFreed=false->o.cls=.ref (ad c)->o.data=.fields vs->vs[2]?=some .none->HS (C.hold e o) sc k (b₀::suite) (U e c)) :
  HSX1 C sc k (.Try body [.ExceptHandler (some (.Name (Str.ofString H) np)) (some (Str.ofString n)) (b₀::suite) hpos] [] [] pos) (s5 n cs T U):=by
 obtain ⟨h1,bmH,h2⟩:=Tb.at_ H hH
 refine lM G.ok hz hb hn hdb h1 h2 hvar (fun c hc=>?_) fun e o vs c Cc hc hg hez hof hcls hd hv2=>?_
 ·refine x1_4 (Tb.sub c hc) fun bm h3 h4 _ h5=>?_
  exact⟨ad c,bm,h3,h4,by rw[h5 H hH];exact List.all_eq_true.mp hsub c hc⟩
 ·refine x1_2 (Tb.sub c hc) fun bm h3 _=>?_
  rw[h3] at hg;cases hg
  exact hs e o vs c hc hez hof hcls hd hv2
theorem Aj (G:Gl C p) (Tb:XTab C cs ks ad) {e:Addr} {o:Obj} {vs:Array Value} {c n K:String} (hc:c∈cs) (hez:C.hB.get? e=Option.none) (hof:o.isFreed=false) (hcls:o.cls=.ref (ad c)) (hd:o.data=.fields vs) (h2:vs[2]?=some .none) (hK:K∈ks) {np p1 p2 pos:Pos}
  (hi:sc.names.lookup (Str.ofString "isinstance")=some .globalImplicit) (hn:sc.names.lookup (Str.ofString n)=some .local) (hnd:(Str.ofString n == ("__debug__":Str))=false) (hk:sc.names.lookup (Str.ofString K)=some .globalImplicit) (hkd:(Str.ofString K == ("__debug__":Str))=false) :
  HE (C.hold e o) sc k (.Call (.Name (Str.ofString "isinstance") np) [.Name (Str.ofString n) p1,.Name (Str.ofString K) p2] [] pos) (bv (gV e (.ref (ad K)) (tm c K)) (bV (aO n) (bV (br (.ref (ad K))) iF))):=by
 obtain ⟨h1,bmH,h3⟩:=Tb.at_ K hK
 refine x1_4 (Tb.sub c hc) fun bm h4 h5 _ h6=>?_
 exact uS (G.hold hez hof hd h2) (tU (mE hez hof) hcls (h5.keeps (aN hez hof)) (h3.keeps (aN hez hof)) (h6 K hK)) hi hn hnd hk hkd h1
end
section
variable {m:aq} {σ:ae} {Q:Fl->aq->ae->Prop} {X:XT} {R:V->ae->Prop} {Y:String->ae->Prop}
@[simp] theorem Ar {T:ST}:xP T m σ Q X=T m σ Q:=rfl
@[simp] theorem uV {c:String}:ko c m σ Q X=X c m σ:=rfl
@[simp] theorem zd {B:BT} {T U:bX}:As B T U m σ Q X=B m σ fun b σ'=>if b then T m σ' Q X else U m σ' Q X:=rfl
@[simp] theorem yi {g:Tgt} {I:IT} {T:bX}:vI g I T m σ Q X=I m σ fun items inv σ'=>eP g inv T items m σ' Q X:=rfl
@[simp] theorem yf {x:String} {T:gJ}:vB x T m σ Q X=T m σ (fun v σ'=>Q .next (put m x v) σ') fun c σ'=>X c m σ':=rfl
@[simp] theorem yg {T:gJ}:vC T m σ Q X=T m σ (fun v σ'=>Q (.ret v) m σ') fun c σ'=>X c m σ':=rfl
@[simp] theorem vL {spec:bE} {L:LT}:sf spec L m σ R Y=L m σ fun vs σ'=>spec vs σ' R Y:=rfl
@[simp] theorem vD {T:ET} {U:gJ}:vE T U m σ R Y=T m σ fun v σ₁=>U m σ₁ (fun u σ₂=>R (.tup [v,u]) σ₂) Y:=rfl
@[simp] theorem ye {n:String} {cs:List String} {T:bX} {U:Addr->String->ST}:s5 n cs T U m σ Q X=T m σ Q fun c m' σ'=>c∈cs/\∀e,σ' e=Option.none->U e c (put m' n (.ref e)) σ' fun f m'' σ''=>Q f (cut m'' n) σ'':=rfl
@[reducible] noncomputable def r9 (U:bX) (Q:Fl->aq->ae->Prop) (X:XT):Fl->aq->ae->Prop:=fun f m σ=>match f with
 |.next=>U m σ Q X
 |f=>Q f m σ
@[simp] theorem s4 (U:bX):r9 U Q X .next m σ=U m σ Q X:=rfl
@[simp] theorem uU (U:bX) (v:V):r9 U Q X (.ret v) m σ=Q (.ret v) m σ:=rfl
@[simp] theorem wV {T:ET} {J:List V->(ae->Prop)->ae->Prop}:wW T m σ J=T m σ fun v σ'=>∃a xs,v=.ref a/\σ' a=some (.list xs)/\J xs (fun σ=>σ a=some (.list xs)) σ':=rfl
end
theorem be {g:Tgt} {inv:ae->Prop} {T:bX} (I:Nat->aq->ae->Prop) (hinv:∀i m σ,I i m σ->inv σ) (items:List V) {Q:Fl->aq->ae->Prop} {X:XT}
  (step:∀i v m σ Q',items[i]?=some v->I i m σ->(∀m' σ',I (i+1) m' σ'->Q' .next m' σ')->∃m',bG g v m=some m'/\T m' σ Q' X)
  (done:∀m σ,I items.length m σ->Q .next m σ):∀(m:aq) (σ:ae),I 0 m σ->eP g inv T items m σ Q X:=by
 induction items generalizing I with
 |nil=>exact fun m σ h=>⟨hinv _ _ _ h,done m σ h⟩
 |cons v r ih=>exact fun m σ h=>⟨hinv _ _ _ h,step 0 v m σ _ rfl h (ih (fun i=>I (i+1)) (fun i=>hinv (i+1)) (fun i=>step (i+1)) done)⟩
structure Bk (C:Cx) (bk N:Addr) (mN:Str->Option Value):Prop where
 glob:C.mg (Str.ofString "Book")=some (.ref bk)
 cls:ClsAt C.hB bk N mN
 look:∀n∈(["__getattribute__","__getattr__","__setattr__","trees","made_of"]:List String),mN (Str.ofString n)=none
noncomputable def MtAt (C:Cx) (mN:Str->Option Value) (j:Nat) (f:String) (spec:aK):Prop:=
 ∃a o fd,mN (Str.ofString f)=some (.ref a)/\C.hB.get? a=some o/\o.cls=.type "function"/\o.data=.func fd/\FnSound C j a spec
noncomputable def MtAtX (C:Cx) (mN:Str->Option Value) (j:Nat) (f:String) (spec:bE):Prop:=
 ∃a o fd,mN (Str.ofString f)=some (.ref a)/\C.hB.get? a=some o/\o.cls=.type "function"/\o.data=.func fd/\FnSoundX C j a spec
section
variable {C:Cx} {bk N:Addr} {mN:Str->Option Value} {sc:Scope} {k:Nat}
theorem cI {h:Heap} {Cl N:Addr} {mN:Str->Option Value} {P:Prop} (X:ClsAt h Cl N mN)
  (k:∀(nm q:Str) (bs:List Value) (sn:List Str) (sub:List Value) (col:Option Bool) (dd:Option Addr) (k0 k1 k2 k3 k5:Option Value),h.get? Cl=some (excClassObj nm q Cl N bs [.type "object"] true sn sub false col dd k0 k1 k2 k3 k5 "object.__new__")->P):P:=by
 obtain ⟨nm,q,bs,sn,sub,col,dd,k0,k1,k2,k3,k5,hC⟩:=X.obj
 exact k nm q bs sn sub col dd k0 k1 k2 k3 k5 hC
theorem eH {σ:ae} {s:Shared} {a dx:Addr} {fs:List (String×V)} (B:Bk C bk N mN) (R:RelG C σ s) (ha:σ a=some (.inst dx)) (hd:σ dx=some (.ns fs)) :
  fs.length<=1000/\∃mA,s.heap.Inst a bk mA/\s.heap.get? a=some {cls:=.ref bk,dict:=some dx,data:=.plain}/\(∀x v,fs.lookup x=some v->∃w,mA (Str.ofString x)=some w/\VRel C.aS s.heap v w)/\∀y:Str,(∀q∈fs,y≠Str.ofString q.1)->mA y=none:=by
 refine x1_3 (R.view _ _ ha) fun cl h1 h2 h3=>?_
 rw[B.glob] at h1;cases Option.some.inj h1
 obtain ⟨hz,mA,h4,h5,h6⟩:=R.view _ _ hd
 exact⟨hz,mA,⟨_,h3,rfl,fun c=>by simp,.inr ⟨dx,rfl,h2,h4⟩⟩,h3,h5,h6⟩
theorem lg {fs:List (String×V)} {x:String} (h:fs.lookup x=none):∀q∈fs,Str.ofString x≠Str.ofString q.1:=by
 induction fs with
 |nil=>intro q hq;cases hq
 |cons p r ih=>
  intro q hq e
  rw[List.lookup_cons] at h
  split at h
  ·cases h
  ·rename_i hb
   rcases List.mem_cons.mp hq with rfl | hq
   ·have:=aX e
    rw[this] at hb
    simp at hb
   ·exact ih h q hq e
noncomputable def jA (x:String):Prop:=typeLookup (.type "object") (Str.ofString x)=pure none
@[reducible] noncomputable def sU (x:String) (T:ET):ET:=fun m σ Q=>T m σ fun v σ'=>∃a dx fs t,v=.ref a/\σ' a=some (.inst dx)/\σ' dx=some (.ns fs)/\fs.lookup x=some (.ref t)/\Q (.ref t) σ'
theorem y9 (B:Bk C bk N mN) {x:String} {o:Expr} {pos:Pos} {T:ET} (hx:jA x) (hn:mN (Str.ofString x)=Option.none) (ho:HE C sc k o T)
  (hbase:∀env,attributeBase o (Str.ofString x) env (eval o env)=eval o env):HE C sc k (.Attribute o (Str.ofString x) pos) (sU x T):=by
 refine⟨?_⟩;intro env A s m σ Q P E en ao R F q hP
 rw[arm_eval_Attribute,hbase]
 refine wpAny_bind (ho.run env A s m σ _ _ E en ao R F q fun v w σ₁ s₁ hv R₁ S₁ q₁=>?_)
 obtain ⟨a,dx,fs,t,rfl,ha,hd,hl,q₁⟩:=q₁
 obtain rfl:=hv.invRef
 obtain ⟨_,mA,hI,_,hm,_⟩:=eH B R₁ ha hd
 refine x1_2 (hm _ _ hl) fun w hw hr=>?_
 obtain rfl:=hr.invRef
 refine wpAny_bind (wpAny_standAt (wpAny_bind (wpAny_holding ?_)))
 have hcl:=B.cls.keeps R₁.base
 obtain ⟨hh,g,d,tk,os⟩:=s₁
 refine cI hcl fun nm q bs sn sub col dd k0 k1 k2 k3 k5 hC=>?_
 refine load_attr hC hcl.ns (B.look "__getattribute__" (by decide)) hn hx hI hw rfl ?_
 exact wpAny_bind (wpAny_letTemporaryGo (wpAny_pure (hP _ _ σ₁ _ (.ref _) (R₁.tok _) S₁ q₁)))
theorem RelG.turn {σ:ae} {s:Shared} {h':Heap} {tk:Nat} {a:Addr} {o o':AObj} (R:RelG C σ s) (ha:σ a=some o) (hk:∀b ob,b≠a->s.heap.get? b=some ob->h'.get? b=some ob) (ho:ObjRel C h' a o') :
  RelG C (am σ a o') {s with heap:=h',toks:=tk}:=by
 refine x1_3 ((R.view a o ha).shape) fun ob h1 h2 _=>?_
 have kt:ar s.heap h':=fun b o eb ht=>hk b o (by rintro rfl;rw[h1] at eb;cases Option.some.inj eb;exact h2 ht) eb
 refine⟨let ⟨_,_,d,e⟩:=R.rest;⟨h',tk,d,by rw[e]⟩,fun b o e=>hk b o (by rintro rfl;rw[R.apart b (by rw[ha];simp)] at e;cases e) (R.base b o e),fun b ob e=>?_,fun b hb=>?_⟩
 ·by_cases q:b=a
  ·subst q;rw[af] at e;cases Option.some.inj e;exact ho
  ·rw[an q] at e;exact (R.view b ob e).keep kt fun o e=>hk b o q e
 ·by_cases q:b=a
  ·subst q;exact R.apart b (by rw[ha];simp)
  ·rw[an q] at hb;exact R.apart b hb
theorem Step.turn {own:Addr->Prop} {σ:ae} {h h':Heap} {a:Addr} {o o':AObj} (ha:σ a=some o) (hk:∀b ob,b≠a->h.get? b=some ob->h'.get? b=some ob) (hz:h.objs.size<=h'.objs.size):Step own σ (am σ a o') h h':=
 .of (fun b o e n _=>hk b o (by rintro rfl;rw[ha] at n;cases n) e) hz fun b n m=>by
  by_cases q:b=a
  ·subst q;rw[ha] at n;cases n
  ·rw[an q] at m;exact absurd n m
theorem mV {fs:List (String×V)} {mA:Str->Option Value} (h:∀y:Str,(∀q∈fs,y≠Str.ofString q.1)->mA y=none):Within mA (fs.map fun q=>Str.ofString q.1):=by
 intro n e
 apply Classical.byContradiction
 intro hn
 exact e (h n fun q hq z=>hn (List.mem_map.mpr ⟨q,hq,z.symm⟩))
@[reducible] noncomputable def sA (x:String) (T To:ET):ST:=fun m σ Q=>T m σ fun v σ₁=>To m σ₁ fun o σ₂=>∃a dx fs,o=.ref a/\σ₂ a=some (.inst dx)/\σ₂ dx=some (.ns fs)/\fs.length < 1000/\Q .next m (am σ₂ dx (.ns ((x,v)::fs)))
theorem xW (B:Bk C bk N mN) {x:String} {o value:Expr} {pos' pos:Pos} {T To:ET} (hx:jA x) (hn:mN (Str.ofString x)=Option.none) (he:HE C sc k value T) (ho:HE C sc k o To)
  (hs:∀env,EnvOk env sc->swapsWith value (some (.Attribute o (Str.ofString x) pos')) pos.line env=pure false):HS1 C sc k (.Assign [.Attribute o (Str.ofString x) pos'] value pos) (sA x T To):=by
 refine⟨?_⟩;intro env A s m σ Q P E en ao R F q hP
 refine plainObj_wpAny_Assign_Attribute (he.run env A s m σ _ _ E en ao R F q fun v w σ₁ s₁ hv R₁ S₁ q₁=>ho.run env A s₁ m σ₁ _ _ E en ao R₁ (F.step R S₁) q₁ fun u wo σ₂ s₂ hvo R₂ S₂ q₂=>?_) (hs env en)
 obtain ⟨a,dx,fs,rfl,ha,hd,hz,q₂⟩:=q₂
 obtain rfl:=hvo.invRef
 obtain ⟨_,mA,hI,hoa,hm,hno⟩:=eH B R₂ ha hd
 have hv₂:=hv.keep (S₂.tupsN R₁)
 have hcl:=B.cls.keeps R₂.base
 have F₂:=F.step R (S₁.trans S₂)
 have hxC:a≠bk:=cI B.cls fun nm q bs sn sub col dd k0 k1 k2 k3 k5 hC₀=>by rintro rfl;rw[R₂.apart a (by rw[ha];simp)] at hC₀;cases hC₀
 refine av ?_
 obtain ⟨hh,g,d,tk,os⟩:=s₂
 refine cI hcl fun nm q bs sn sub col dd k0 k1 k2 k3 k5 hC=>?_
 refine store_attr PySem.F.store_object hC hcl.ns (B.look "__setattr__" (by decide)) hn hx hxC hI (fun h' tk' I' hk hsame hsz=>?_) (mV hno) (by rw[List.length_map,sizeLine_eq];omega)
 refine x1_5 (hsame _ hoa) fun o₁ e₁ c₁ dt₁ sl₁ dk₁=>?_
 have ho₁:o₁={cls:=.ref bk,dict:=some dx,data:=.plain}:=by
  obtain ⟨oc,od,odt,osl⟩:=o₁
  have:=dk₁ dx rfl
  dsimp only at c₁ dt₁ sl₁ this
  subst c₁ dt₁ sl₁ this
  rfl
 subst ho₁
 have hk':∀b ob,b≠dx->hh.get? b=some ob->h'.get? b=some ob:=fun b ob hb e=>by
  by_cases hba:b=a
  ·subst hba
   have:hh.get? b=_:=hoa
   rw[this] at e;cases Option.some.inj e;exact e₁
  ·exact hk b ob hba (fun o₀ d' e₀ ed=>by
    have h9:hh.get? a=_:=hoa
    rw[h9] at e₀;cases Option.some.inj e₀;cases Option.some.inj ed;exact hb) e
 refine x1_3 ((R₂.view dx _ hd).shape) fun ob hob hnT _=>?_
 have kt:ar hh h':=fun b o eb ht=>hk' b o (by
  rintro rfl
  have h9:hh.get? b=_:=hob
  rw[h9] at eb;cases Option.some.inj eb;exact hnT ht) eb
 refine x1_4 I' fun o' e' _ _ hd'=>?_;clear I'
 rw[e₁] at e';cases Option.some.inj e'
 rcases hd' with ⟨hn0,_⟩ | ⟨d',hd',_,hns'⟩
 ·cases hn0
 cases Option.some.inj hd'
 have hobj:ObjRel C h' dx (.ns ((x,v)::fs)):=by
  refine⟨by simp;omega,_,hns',fun y u e=>?_,fun y hy=>?_⟩
  ·rw[List.lookup_cons] at e
   split at e
   ·rename_i hb
    cases Option.some.inj e
    have:y=x:=by simpa using hb
    subst this
    exact⟨w,by simp,hv₂.keep kt⟩
   ·rename_i hb
    have hyx:y≠x:=by simpa using hb
    refine x1_2 (hm y u e) fun w' h8 h9=>?_
    exact⟨w',by simp[show ¬Str.ofString y=Str.ofString x from fun z=>hyx (aX z),h8],h9.keep kt⟩
  ·simp[hy (x,v) (.head _),hno y fun q hq=>hy q (.tail _ hq)]
 have R₃:=R₂.turn (tk:=tk') hd hk' hobj
 have S₃:Step no σ₂ (am σ₂ dx (.ns ((x,v)::fs))) hh h':=.turn hd hk' hsz
 exact hP .next .next m _ _ .next R₃ (F₂.step R₂ S₃) ((S₁.trans S₂).trans S₃).own q₂
@[reducible] noncomputable def AZ (f:String) (spec:aK) (L:LT) (m:aq) (Q:V->ae->Prop):V->ae->Prop:=fun v σ=>(∃a dx fs,v=.ref a/\σ a=some (.inst dx)/\σ dx=some (.ns fs)/\fs.lookup f=none)/\L m σ (pQ spec v Q)
@[reducible] noncomputable def qm (f:String) (spec:aK) (T:ET) (L:LT):ET:=fun m σ Q=>T m σ (AZ f spec L m Q)
theorem gG {es:List Expr} {env:Env} {pos:Pos} (hp:ah es=true) (hfew:es.length < 30):methodCallForm (es.length+([]:List Keyword).length) (backTo pos (starEach es env)) (backToKw pos (keywordEach [] env))=true:=by
 have hall:(backTo pos (starEach es env)).all (fun x=>!x.1)=true:=by
  have:=aA (env:=env) (pos:=pos) hp
  rw[List.any_eq_false] at this
  rw[List.all_eq_true]
  exact fun x hx=>by cases z:x.1 with | true=>exact absurd z (this x hx) | false=>rfl
 show ((backTo pos (starEach es env)).all (fun x=>!x.1)&&true&&decide (es.length < 30))=true
 rw[hall,decide_eq_true hfew];rfl
theorem f8 {σ₁:ae} {s₁:Shared} {A:Around} {E:Value->Shared->Prop} {pl:Sem Bool} {f:String} {a dx fa:Addr} {fs:List (String×V)} {of:Obj} {y:Option Value} (B:Bk C bk N mN) (R₁:RelG C σ₁ s₁) (hmf:mN (Str.ofString f)=some (.ref fa)) (hof:C.hB.get? fa=some of) (hfc:of.cls=.type "function") (hB:typeLookup (.type "object") (Str.ofString f)=pure y)
  (ha:σ₁ a=some (.inst dx)) (hd:σ₁ dx=some (.ns fs)) (hl0:fs.lookup f=none) {Q:Value×List Value->Shared->Prop} (q:Q (.ref fa,[.ref a]) s₁):wpAny (model C.prog C.w) A (getMethod (.ref a) (Str.ofString f) pl) Q E s₁:=by
 obtain ⟨_,mA,hI,_,_,hno⟩:=eH B R₁ ha hd
 have hcl:=B.cls.keeps R₁.base
 have hfh:=R₁.base _ _ hof
 obtain ⟨hh,g,d,tk,os⟩:=s₁
 refine cI hcl fun nm q' bs sn sub col dd k0 k1 k2 k3 k5 hC=>?_
 exact method_of hC hcl.ns (B.look "__getattribute__" (by decide)) (B.look "__getattr__" (by decide)) hmf hfh hfc hB hI (hno _ (lg hl0)) q
theorem x4 (O:C.Ok) (B:Bk C bk N mN) {f:String} {o:Expr} {apos pos:Pos} {es:List Expr} {spec:aK} {To:ET} {L:LT} {j:Nat} {y:Option Value} (hf:MtAt C mN j f spec) (hj:j < k) (hB:typeLookup (.type "object") (Str.ofString f)=pure y) (ho:HE C sc k o To) (hl:HL C sc k es L) (hp:ah es=true)
  (hbase:∀env,attributeBase o (Str.ofString f) env (eval o env)=eval o env) (hline:(apos.endLine == pos.line)=true) (hfew:es.length < 30):HE C sc k (.Call (.Attribute o (Str.ofString f) apos) es [] pos) (qm f spec To L):=by
 obtain ⟨fa,of,fd,hmf,hof,hfc,hfd,hS⟩:=hf
 refine⟨?_⟩;intro env A s m σ Q P E en ao R F q hP
 rw[arm_eval_Call,hbase]
 refine wpAny_bind (ho.run env A s m σ _ _ E en ao R F q fun v w σ₁ s₁ hv R₁ S₁ q₁=>?_)
 obtain ⟨⟨a,dx,fs,rfl,ha,hd,hl0⟩,q₁⟩:=q₁
 have hv':=hv
 obtain rfl:=hv'.invRef
 refine wpAny_bind (wpAny_standAt ?_)
 have hpos:methodCallPos true o env apos pos=pure pos:=by unfold methodCallPos;simp[hline]
 unfold methodCall
 rw[gG hp hfew]
 refine wpAny_bind (wpAny_holding ?_)
 show wpAny _ A (getMethod (.ref a) (Str.ofString f) _) _ E s₁
 refine f8 B R₁ hmf hof hfc hB ha hd hl0 ?_
 refine wpAny_bind (wpAny_of_eq hpos ?_)
 show wpAny _ A (callWith pos (.ref fa) [.ref a] (backTo pos (starEach es env)) []) P E s₁
 refine Calls.callWith_function (o:=of) (fd:=fd) (au hp (hl.run env A s₁ m σ₁ pos _ _ E en ao R₁ (F.step R S₁) q₁ fun vs ws σ₂ s₂ hvs R₂ S₂ q₂=>⟨⟨R₂.base _ _ hof,hfd⟩,?_⟩))
 exact wpAny_call (hS A s₂ σ₂ (.ref a::vs) (.ref a::ws) Q P E (ao.le hj) R₂ (.cons (.ref a) hvs) q₂ fun v w σ' s' hv' R' S' q'=>hP v w σ' s' hv' R' ((S₁.trans S₂).trans S') q')
@[reducible] noncomputable def zE (spec:bE) (o:V) (Q:V->ae->Prop) (X:String->ae->Prop):List V->ae->Prop:=fun vs σ=>spec (o::vs) σ Q X
@[reducible] noncomputable def AY (f:String) (spec:bE) (L:LT) (m:aq) (Q:V->ae->Prop) (X:String->ae->Prop):V->ae->Prop:=fun v σ=>(∃a dx fs,v=.ref a/\σ a=some (.inst dx)/\σ dx=some (.ns fs)/\fs.lookup f=none)/\L m σ (zE spec v Q X)
@[reducible] noncomputable def oy (f:String) (spec:bE) (T:ET) (L:LT):gJ:=fun m σ Q X=>T m σ (AY f spec L m Q X)
theorem vm (O:C.Ok) (B:Bk C bk N mN) {f:String} {o:Expr} {apos pos:Pos} {es:List Expr} {spec:bE} {To:ET} {L:LT} {j:Nat} {y:Option Value} (hf:MtAtX C mN j f spec) (hj:j < k) (hB:typeLookup (.type "object") (Str.ofString f)=pure y) (ho:HE C sc k o To) (hl:HL C sc k es L) (hp:ah es=true)
  (hbase:∀env,attributeBase o (Str.ofString f) env (eval o env)=eval o env) (hline:(apos.endLine == pos.line)=true) (hfew:es.length < 30):HEX C sc k (.Call (.Attribute o (Str.ofString f) apos) es [] pos) (oy f spec To L):=by
 obtain ⟨fa,of,fd,hmf,hof,hfc,hfd,hS⟩:=hf
 refine⟨?_⟩;intro env A s m σ Q X P E en ao R F W q hP hX
 rw[arm_eval_Call,hbase]
 refine wpAny_bind (ho.run env A s m σ _ _ E en ao R F q fun v w σ₁ s₁ hv R₁ S₁ q₁=>?_)
 obtain ⟨⟨a,dx,fs,rfl,ha,hd,hl0⟩,q₁⟩:=q₁
 have hv':=hv
 obtain rfl:=hv'.invRef
 refine wpAny_bind (wpAny_standAt ?_)
 have hpos:methodCallPos true o env apos pos=pure pos:=by unfold methodCallPos;simp[hline]
 unfold methodCall
 rw[gG hp hfew]
 refine wpAny_bind (wpAny_holding ?_)
 show wpAny _ A (getMethod (.ref a) (Str.ofString f) _) _ E s₁
 refine f8 B R₁ hmf hof hfc hB ha hd hl0 ?_
 refine wpAny_bind (wpAny_of_eq hpos ?_)
 show wpAny _ A (callWith pos (.ref fa) [.ref a] (backTo pos (starEach es env)) []) P E s₁
 refine Calls.callWith_function (o:=of) (fd:=fd) (au hp (hl.run env A s₁ m σ₁ pos _ _ E en ao R₁ (F.step R S₁) q₁ fun vs ws σ₂ s₂ hvs R₂ S₂ q₂=>⟨⟨R₂.base _ _ hof,hfd⟩,?_⟩))
 have S₁₂:=S₁.trans S₂
 have W₂:=W.step (S₁₂.own (env:=env))
 exact wpAny_call (hS A s₂ σ₂ (.ref a::vs) (.ref a::ws) Q X P E (ao.le hj) (W₂.fs (F.step R S₁₂) en.k) R₂ (.cons (.ref a) hvs) q₂ (fun v w σ' s' hv' R' S' q'=>hP v w σ' s' hv' R' (S₁₂.trans S') q') fun c e σ' s' fl R' S' x=>hX c e σ' s' (fl.less S₁₂.size) R' (S₁₂.trans S') x)
end
abbrev bn (h:Heap) (Cl:Addr):Heap:=(h.push {cls:=.type "dict",data:=.dict #[]}).push {cls:=.ref Cl,dict:=some h.objs.size,data:=.plain}
section
variable {prog:Program} {w:World} {A:Around} {E:Value->Shared->Prop} {h:Heap} {g:Array GenState} {d:Drawn} {t:Nat} {os:OsState}
variable {nm q:Str} {Cl N:Addr} {bs:List Value} {sn:List Str} {sub:List Value} {col:Option Bool} {dd:Option Addr} {k0 k1 k2 k3 k5:Option Value}
theorem nE {mN:Str->Option Value} {fI:Addr} {oI:Obj} {Q:Fin->Shared->Prop}
  (hC:h.get? Cl=some (excClassObj nm q Cl N bs [.type "object"] true sn sub false col dd k0 k1 k2 k3 k5 "object.__new__")) (hn:h.Ns N mN) (hi:mN "__init__"=some (.ref fI))
  (hfI:h.get? fI=some oI) (hfc:oI.cls=.type "function")
  (hq:wpAny (model prog w) A (call (.ref fI) [.ref (h.objs.size+1)]) (fun r s'=>r=.none/\Q (.done (.ret (.ref (h.objs.size+1)))) s') E ⟨bn h Cl,g,d,t,os⟩) :
  wpAny (model prog w) A (Builtin.«type.__call__» ⟨[.ref Cl],[]⟩) Q E ⟨h,g,d,t,os⟩:=by
 have hlk:typeLookup (.type "object") "__init__"=pure (some (.builtin "object.__init__")):=by rw[typeLookup_type,builtinLookup_eq_fast];kernel_rfl
 have O:=PySem.F.objNew
 repeat (first | with_reducible refine wpAny_loadPart_at hC ?_ | with_reducible refine wpAny_madeBy_exc hC ?_ | wp_step)
 refine codeAny_call_builtin_code (Code.quiet_builtin _ O.quiet) (wpAny_check_obj_new O hC (codeAny_obj_new O hC hn hi ?_))
 show wpAny _ _ _ _ _ _
 have old:∀b o,h.get? b=some o->(bn h Cl).get? b=some o:=fun b o e=>Heap.get?_push_of_some _ (Heap.get?_push_of_some _ e)
 have hx:(bn h Cl).get? (h.objs.size+1)=some {cls:=.ref Cl,dict:=some h.objs.size,data:=.plain}:=by heap_get
 have hcC:(Value.ref Cl::[Value.type "object"]).contains (.ref Cl)=true:=by simp
 unfold isInstance
 repeat (first | with_reducible refine wpAny_loadPart_at hx ?_ | (with_reducible refine wpAny_isSubtype_exc (old _ _ hC) ?_;rw[hcC]) | wp_step)
 show wpAny _ _ (typeLookup (.ref Cl) _) _ _ _
 refine wpAny_typeLookup_exc (old _ _ hC) (hn.keeps old) PySem.F.mro_object hlk ?_
 rw[hi]
 refine wpAny_holding (wpAny_bind ?_)
 unfold bindSpecial
 refine wpAny_bind (wpAny_typeOf (T:="function") ⟨_,old _ _ hfI,hfc⟩ ?_)
 rw[if_pos (by decide)]
 refine wpAny_pure (wpAny_bind (wpAny_mono hq (fun r s' hr=>?_) fun _ _ x=>x))
 obtain ⟨rfl,hQ⟩:=hr
 wp_walk
 exact hQ
theorem nF {mN:Str->Option Value} {fI:Addr} {oI:Obj} {Q:Value->Shared->Prop}
  (hC:h.get? Cl=some (excClassObj nm q Cl N bs [.type "object"] true sn sub false col dd k0 k1 k2 k3 k5 "object.__new__")) (hn:h.Ns N mN) (hi:mN "__init__"=some (.ref fI))
  (hfI:h.get? fI=some oI) (hfc:oI.cls=.type "function")
  (hq:wpAny (model prog w) (A.under (.builtin "type.__call__" ⟨[.ref Cl],[]⟩)) (call (.ref fI) [.ref (h.objs.size+1)]) (fun r s'=>r=.none/\Q (.ref (h.objs.size+1)) s') E ⟨bn h Cl,g,d,t,os⟩) :
  wpAny (model prog w) A (call (.ref Cl) []) Q E ⟨h,g,d,t,os⟩:=by
 have f1:=tc_lookup
 have f2:=tc_bind (.ref Cl)
 have hT:(⟨h,g,d,t,os⟩:Shared).TypeIs (.ref Cl) "type":=⟨_,hC,rfl⟩
 refine wpAny_call (codeAny_of_tree ?_)
 show wpAny _ _ (callAny (.ref Cl) _) _ _ _
 repeat (any_goals (first | assumption | with_reducible refine wpAny_loadPart_at hC ?_ | wp_step))
 refine⟨rfl,?_⟩
 exact codeAny_call_builtin_at (Code.quiet_builtin _ (by decide +kernel)) entry_typeCall (wpAny_check_type_call_sub hC (nE hC hn hi hfI hfc hq))
end
section
variable {C:Cx} {bk N:Addr} {mN:Str->Option Value} {sc:Scope} {k:Nat}
@[reducible] noncomputable def xi (spec:aK):ET:=fun _ σ Q=>∀a dx,σ a=none->σ dx=none->dx≠a->spec [.ref a] (am (am σ dx (.ns [])) a (.inst dx)) fun r σ'=>r=.none/\Q (.ref a) σ'
theorem HE.new (O:C.Ok) (B:Bk C bk N mN) {spec:aK} {j:Nat} {np pos:Pos} (hf:MtAt C mN j "__init__" spec) (hj:j+1 < k) (hn:sc.names.lookup (Str.ofString "Book")=some .globalImplicit) :
  HE C sc k (.Call (.Name (Str.ofString "Book") np) [] [] pos) (xi spec):=by
 obtain ⟨fa,of,fd,hmf,hof,hfc,hfd,hS⟩:=hf
 refine⟨?_⟩;intro env A s m σ Q P E en ao R F q hP
 refine wpAny_Call_NameR (Calls.Name_function_global en.k (en.of hn) (Calls.loadGlobal_global (mg:=C.mg) (by rw[en.globals];exact O.g.keeps R.base) B.glob ?_) (by decide))
 refine callWith_cls0 B.cls R.base ?_
 have hcl:=B.cls.keeps R.base
 have hfh:=R.base _ _ hof
 have n0:=aH s.heap
 have n1:s.heap.get? (s.heap.objs.size+1)=Option.none:=ai (Nat.le_succ _)
 have hq:=q (s.heap.objs.size+1) s.heap.objs.size (R.freshNone n1) (R.freshNone n0) (Nat.ne_of_lt (Nat.lt_succ_self _))
 have old:∀b o,s.heap.get? b=some o->(bn s.heap bk).get? b=some o:=fun b o e=>Heap.get?_push_of_some _ (Heap.get?_push_of_some _ e)
 have gd:(s.heap.push {cls:=.type "dict",data:=.dict #[]}).get? s.heap.objs.size=some {cls:=.type "dict",data:=.dict #[]}:=Heap.get?_push_size _ rfl
 have R₁:RelG C (am σ s.heap.objs.size (.ns [])) {s with heap:=s.heap.push {cls:=.type "dict",data:=.dict #[]}}:=
  R.add (tk:=s.toks) ay n0 ⟨by simp,fun _=>Option.none,Heap.Ns1.of_empty ⟨_,#[],_,gd,rfl,fun e he=>absurd he (by simp),fun _=>rfl⟩,fun x v e=>by simp at e,fun _ _=>rfl⟩
 have gx:(bn s.heap bk).get? (s.heap.objs.size+1)=some {cls:=.ref bk,dict:=some s.heap.objs.size,data:=.plain}:=by
  have:=Heap.get?_push_size (s.heap.push {cls:=.type "dict",data:=.dict #[]}) (o:={cls:=.ref bk,dict:=some s.heap.objs.size,data:=.plain}) rfl
  rw[Heap.size_push] at this;exact this
 have R₂:RelG C (am (am σ s.heap.objs.size (.ns [])) (s.heap.objs.size+1) (.inst s.heap.objs.size)) {s with heap:=bn s.heap bk}:=
  R₁.add (tk:=s.toks) ay (ai (by rw[Heap.size_push];exact Nat.le_refl _)) ⟨bk,B.glob,Nat.ne_of_lt (Nat.lt_succ_self _),gx⟩
 have S₂:Step no σ (am (am σ s.heap.objs.size (.ns [])) (s.heap.objs.size+1) (.inst s.heap.objs.size)) s.heap (bn s.heap bk):=
  (Step.addPush (o:=.ns [])).trans (.add (fun _ _ e=>Heap.get?_push_of_some _ e) (by unfold bn;simp only[Heap.size_push];omega) (by rw[Heap.size_push];exact Nat.le_refl _))
 obtain ⟨hh,g,d,tk,os⟩:=s
 refine cI hcl fun nm q' bs sn sub col dd k0 k1 k2 k3 k5 hC=>?_
 refine nF hC hcl.ns hmf hfh hfc ?_
 refine wpAny_call (hS _ _ _ [.ref (hh.objs.size+1)] [.ref (hh.objs.size+1)] _ (fun r s'=>r=.none/\P (.ref (hh.objs.size+1)) s') E ?_ R₂ (.cons (.ref _) .nil) hq fun v w σ' s' hv R' S' q'=>?_)
 ·refine⟨?_,?_,?_⟩
  ·exact ao.handled
  ·have:=ao.depth
   show A.depth+1+3*(j+1)+3 < recursionLimit
   omega
  ·have:=ao.units
   have e:(A.under (.builtin "type.__call__" ⟨[.ref bk],[]⟩)).units<=A.units+5:=by
    simp only[Around.under]
    show A.units+_<=A.units+5
    exact Nat.add_le_add_left (show (Code.builtin "type.__call__" {pos:=[Value.ref bk]}).cUnits<=5 from Nat.le_of_ble_eq_true rfl) _
   omega
 ·obtain ⟨rfl,q'⟩:=q'
  obtain rfl:=hv.invNone
  exact⟨rfl,hP _ _ σ' s' (.ref _) R' (S₂.trans S') q'⟩
end
noncomputable def bd (kvs:List (Int×V)) (k:Int) (v:V):List (Int×V):=
 if kvs.any (fun kv=>kv.1=k) then kvs.map (fun kv=>if kv.1=k then (kv.1,v) else kv) else kvs++[(k,v)]
noncomputable def jP (kvs:List (Int×V)) (k:Int):Option V:=(kvs.find? fun kv=>kv.1=k).map (·.2)
section
variable {aS:Addr} {h:Heap}
theorem PRel.anyI {a:List (Int×V)} {b:List (Int×Value)} (k:Int) (x:PRel aS h a b):(a.any fun kv=>kv.1=k)=(b.any fun kv=>kv.1=k):=
 x.ind (P:=fun a b=>(a.any fun kv=>kv.1=k)=(b.any fun kv=>kv.1=k)) rfl fun _ _ _ _ _ _ _ e=>congrArg _ e
theorem PRel.appendI {a a':List (Int×V)} {b b':List (Int×Value)} (x:PRel aS h a b) (y:PRel aS h a' b'):PRel aS h (a++a') (b++b'):=
 x.ind (P:=fun a b=>PRel aS h (a++a') (b++b')) y fun _ _ _ _ _ v _ e=>by
  rw[List.cons_append,List.cons_append];exact And.intro rfl (And.intro v e)
theorem PRel.mapSetI {k:Int} {v:V} {w:Value} (hv:VRel aS h v w) {a:List (Int×V)} {b:List (Int×Value)} (x:PRel aS h a b):PRel aS h (a.map fun kv=>if kv.1=k then (kv.1,v) else kv) (b.map fun kv=>if kv.1=k then (kv.1,w) else kv):=by
 refine x.ind (P:=fun a b=>PRel aS h (a.map fun kv=>if kv.1=k then (kv.1,v) else kv) (b.map fun kv=>if kv.1=k then (kv.1,w) else kv)) trivial fun j u z r r' q _ e=>?_
 rw[List.map_cons,List.map_cons]
 by_cases c:j=k
 ·rw[if_pos c,if_pos c];exact And.intro rfl (And.intro hv e)
 ·rw[if_neg c,if_neg c];exact And.intro rfl (And.intro q e)
theorem PRel.storedI {k:Int} {v:V} {w:Value} {a:List (Int×V)} {b:List (Int×Value)} (x:PRel aS h a b) (hv:VRel aS h v w):PRel aS h (bd a k v) (PySem.stored b k w):=by
 unfold bd PySem.stored
 rw[x.anyI k]
 split
 ·exact x.mapSetI hv
 ·exact x.appendI ⟨rfl,hv,trivial⟩
theorem PRel.noneI {k:Int} {a:List (Int×V)} {b:List (Int×Value)} (x:PRel aS h a b):(jP a k).isSome=(valueAt b k).isSome:=by
 refine x.ind (P:=fun a b=>(jP a k).isSome=(valueAt b k).isSome) rfl fun j u z r r' q _ e=>?_
 unfold jP valueAt
 by_cases c:j=k
 ·rw[List.find?_cons_of_pos (by simpa using c),List.find?_cons_of_pos (by simpa using c)];rfl
 ·rw[List.find?_cons_of_neg (by simpa using c),List.find?_cons_of_neg (by simpa using c)]
  exact e
end
section
variable {C:Cx} {p:Program} {sc:Scope} {k:Nat}
theorem iG (x:Int) (t:Tok):(intKind C.prog C.w).is x (.int x t)=true:=intKind_is _ _ _ _
theorem lC {h:Heap} {a:Addr} {kws:List (Int×Value)} {ep:Nat} (x:h.DictAt (intKind C.prog C.w) a kws ep):∀o,h.get? a=some o->¬d4 o:=by
 intro o ho
 refine x2_4 x fun o' es ho' hc hd _=>?_;clear x
 rw[ho] at ho';cases Option.some.inj ho'
 simp[d4,hd]
theorem jL (kvs:List (Int×V)) (x:Int) (v:V):(bd kvs x v).length<=kvs.length+1:=by
 unfold bd;split<;>simp
noncomputable def tt (o i v:V) (σ:ae) (Q:ae->Prop):Prop:=isR o fun a=>isI i fun k=>∃kvs ep,σ a=some (.idict kvs ep)/\kvs.length < 16777216/\∀ep',Q (am σ a (.idict (bd kvs k v) ep'))
theorem rm:OpSet C k tt:=by
 intro A s σ o i v wo wi w Q P E ao R vo vi vv q hP
 obtain ⟨a,rfl,q1⟩:=isR.elim q
 obtain ⟨x,rfl,kvs,ep,hx,hz,q⟩:=isI.elim q1
 ·obtain rfl:=vo.invRef;obtain ⟨_,rfl⟩:=vi.invInt
  obtain ⟨_,kws,h1,h2⟩:=R.view _ _ hx
  have hl:=h2.length
  refine wpAny_setItem_pairs (knd:=intKind C.prog C.w) (iG x _) h1.dictOf (fun h' hd' hs'=>?_) (by rw[sizeLine_eq,<-hl];omega)
  refine x1_1 hd'.dictAt fun ep' hat=>?_
  have kt:ar s.heap h':=fun b o eb ht=>hs'.extBut b o (by rintro rfl;exact lC h1 o eb ht) eb
  have vl:=jL kvs x v
  exact hP (am σ a (.idict (bd kvs x v) ep')) _ (R.change (tk:=s.toks+1) hx hs' ⟨by omega,_,hat,(h2.storedI vv).keep kt⟩) (.change hx hs') (q ep')
noncomputable def pv:O2:=fun i o σ Q=>isI i fun x=>isR o fun a=>∃kvs ep,σ a=some (.idict kvs ep)/\Q (.bool (jP kvs x).isSome) σ
theorem tX (O:C.Ok):Op2 C k (compareOp .In) pv:=by
 intro A s σ a b wa wb Q P E ao R va vb q hP
 obtain ⟨x,rfl,q1⟩:=isI.elim q
 obtain ⟨a,rfl,kvs,ep,hx,q⟩:=isR.elim q1
 ·obtain ⟨_,rfl⟩:=va.invInt;obtain rfl:=vb.invRef
  obtain ⟨_,kws,h1,h2⟩:=R.view _ _ hx
  refine wpAny_in_of (knd:=intKind C.prog C.w) (iG x _) (O.noMods (R.apart a (by rw[hx];simp))) h1.dictOf.mapOf ?_
  rw[<-h2.noneI]
  exact hP _ _ σ _ (.bool _) (R.tok _) Step.refl q
end
section
variable {C:Cx} {p:Program} {sc:Scope} {k:Nat}
structure HQ (C:Cx) (sc:Scope) (e:Expr) (T:ET):Prop where
 run:∀(env:Env) (A:Around) (s:Shared) (m:aq) (σ:ae) (Q:V->ae->Prop) (P:Value->Shared->Prop) (E:Value->Shared->Prop),
  EnvOk env sc->RelG C σ s->FrameRel C env m σ s.heap->T m σ Q->(∀v w tk,VRel C.aS s.heap v w->Q v σ->P w {s with toks:=tk})->wpAny (model C.prog C.w) A (eval e env) P E s
theorem HQ.name {x:String} {pos:Pos} (h:sc.names.lookup (Str.ofString x)=some .local) (hd:(Str.ofString x == ("__debug__":Str))=false):HQ C sc (.Name (Str.ofString x) pos) (aO x):=by
 refine⟨?_⟩;intro env A s m σ Q P E en R F q₀ hP
 refine x1_2 q₀.elim fun v hv q=>?_
 refine x1_2 F.ns fun mm hn hm=>?_
 refine x1_2 (hm x v hv (en.of h)) fun w hw hr=>?_
 exact wpAny_Name (wpAny_loadName_local en.k (en.of h) hn hw (hP v w s.toks hr q)) hd
theorem HQ.bool {b:Bool} {n:Nat} {pos:Pos}:HQ C sc (.Constant (.bool b) n pos) (br (.bool b)):=by
 refine⟨?_⟩;intro env A s m σ Q P E en R F q hP
 exact wpAny_Constant_bool (hP _ _ s.toks (.bool b) q)
noncomputable def wG (kvs:List (Int×V)) (σ:ae) (Q:V->ae->Prop):Prop:=∀a ep,σ a=Option.none->Q (.ref a) (am σ a (.idict kvs ep))
@[reducible] noncomputable def mJ (T U:ET):ET:=fun m σ Q=>T m σ fun v σ₁=>U m σ₁ fun u σ₂=>∃i,v=.int i/\wG [(i,u)] σ₂ Q
@[reducible] noncomputable def rR (T U:ET):ET:=fun m σ Q=>T m σ fun v σ₁=>U m σ₁ fun u σ₂=>∃x,v=.str x/\ld [(x,u)] σ₂ Q
theorem vp {key val:Expr} {pos:Pos} {T U:ET} (hk:HQ C sc key T) (hv:HQ C sc val U):HE C sc k (.Dict [some key] [val] pos) (mJ T U):=by
 refine⟨?_⟩;intro env A s m σ Q P E en ao R F q hP
 have hn:=aH s.heap
 have R₀:RelG C σ {s with heap:=s.heap.push {cls:=.type "dict",data:=.dict #[]}}:=R.grow (tk:=s.toks) ay
 have F₀:FrameRel C env m σ (s.heap.push {cls:=.type "dict",data:=.dict #[]}):=F.step R .push
 refine wpAny_Dict_walk (knd:=intKind C.prog C.w) rfl rfl (by simp) (by simp) (pairTrees_cons_walk (hk.run env A _ m σ _ _ E en R₀ F₀ q fun v w tk hvr q₁=>hv.run env A _ m σ _ _ E en (R₀.tok tk) F₀ q₁ fun u wu tk' hu q₂=>pairTrees_nil_walk ?_))
 obtain ⟨i,rfl,q₂⟩:=q₂
 obtain ⟨_,rfl⟩:=hvr.invInt
 refine⟨[(i,wu)],⟨iG i _,rfl,trivial⟩,Heap.DictOf.new s.heap,fun h' hd hs=>?_⟩
 have hm:merged ([]:List (Int×Value)) [(i,wu)]=[(i,wu)]:=by simp[merged,stored]
 rw[hm] at hd
 refine x1_1 hd.dictAt fun ep hat=>?_
 have old:∀b o,s.heap.get? b=some o->h'.get? b=some o:=fun b o e=>(hs.2 b (Nat.ne_of_lt (Heap.lt_size e))).trans (ay b o e)
 have kt:ar (s.heap.push {cls:=.type "dict",data:=.dict #[]}) h':=fun b o e ht=>(hs.2 b (by
  rintro rfl
  rw[Heap.get?_push_size _ rfl] at e;cases Option.some.inj e
  obtain ⟨_,_,_,z⟩:=ht;cases z)).trans e
 have hz:s.heap.objs.size<=h'.objs.size:=by
  have h1:h'.objs.size=(s.heap.push {cls:=.type "dict",data:=.dict #[]}).objs.size:=hs.1
  have h2:(s.heap.push {cls:=.type "dict",data:=.dict #[]}).objs.size=s.heap.objs.size+1:=Heap.size_push _ _
  omega
 exact hP (.ref _) _ (am σ s.heap.objs.size (.idict [(i,u)] ep)) _ (.ref _) (R.add (tk:=tk'+1) old hn ⟨by simp,_,hat,rfl,hu.keep kt,trivial⟩) (.add old hz (Nat.le_refl _)) (q₂ _ ep (R.freshNone hn))
theorem jO {aS:Addr} {h:Heap} {ys:List Int} {ws:List Value} (x:IntsAre ws ys):VRels aS h (ys.map .int) ws:=by
 induction x with
 |nil=>exact .nil
 |cons y t r ih=>exact .cons (.int y t) ih
theorem gl {aS:Addr} {h:Heap}:∀{ys:List Int} {ws:List Value},VRels aS h (ys.map .int) ws->IntsAre ws ys
 |[],_,r=>by rw[r.inv0];exact .nil
 |y::ys,_,r=>by
  obtain ⟨w,ws,rfl,h1,r2⟩:=r.invC
  obtain ⟨t,rfl⟩:=h1.invInt
  exact .cons y t (gl r2)
theorem nK {s:Shared} {kvs:List (Int×V)} {kws:List (Int×Value)} {vs:List Value} (h2:PRel C.aS s.heap kvs kws) (hl:vs.length=kws.length) (hv:∀(j:Nat) (v:Value),vs[j]?=some v->∃k x,kws[j]?=some (k,x)/\(intKind C.prog C.w).is k v=true):IntsAre vs (kvs.map (·.1)):=by
 have hkeys:kvs.map (·.1)=kws.map (·.1):=by
  clear hl hv
  induction kvs generalizing kws with
  |nil=>cases kws with | nil=>rfl | cons _ _=>exact h2.elim
  |cons q r ih=>cases kws with
   |nil=>exact h2.elim
   |cons q' r'=>refine vM h2 fun e _ h=>?_;clear h2;simp only[List.map_cons];rw[ih h];exact congrArg (·::_) e
 rw[hkeys]
 clear h2 hkeys
 induction kws generalizing vs with
 |nil=>have:vs=[]:=List.length_eq_zero_iff.mp (by simpa using hl);subst this;exact .nil
 |cons q kws ih=>
  match vs,hl with
  |v::vs,hl=>
   refine x2_2 (hv 0 v rfl) fun ky x e1 e2=>?_
   simp at e1
   subst e1
   obtain ⟨t,rfl⟩:=Value.isInt_shape e2
   exact .cons ky t (ih (by simpa using hl) fun j v e=>hv (j+1) v (by simpa using e))
noncomputable def kM:aK:=fun vs σ Q=>onR vs fun a=>∃ns:List Int,σ a=some (.list (ns.map .int))/\0 < ns.length/\∀M,M∈ns->(∀b,b∈ns->b<=M)->Q (.int M) σ
theorem rr (hz:C.held=Option.none):OpN C k (fun ws=>PySem.call (.builtin "max") ws) kM:=by
 intro A s σ vs ws Q P E ao R hv q hP
 obtain ⟨a,rfl,ns,hx,hne,q⟩:=onR.elim q
 ·obtain ⟨wa,rfl,h1⟩:=hv.inv1
  obtain rfl:=h1.invRef
  obtain ⟨_,us,h2,h3⟩:=R.view _ _ hx
  have hI:=gl h3
  refine x1_1 hI.allInts.items fun xs e=>?_
  have hns:ns=xs.toList.map (·.1):=by
   rw[<-hI.numsOf,<-nums_intItems,<-e]
  have hsz:0 < xs.size:=by
   have h3:=hne;rw[hns,List.length_map,Array.length_toList] at h3;exact h3
  have hl:=h2.isList
  rw[e] at hl
  refine av (max_intList (ao.none hz) hl hsz fun v h' tk hv hk=>?_)
  intro hsz'
  obtain ⟨t,rfl⟩:=intItems_at hv
  refine bH (argBest_gt (numAt xs) (xs.size-1)) fun h4 h5=>?_
  refine hP _ _ σ _ (.int _ _) (R.grow hk) (.grow hk hsz') (q _ ?_ fun b hb=>?_)
  ·rw[hns,numAt_eq];exact getD_mem (by rw[List.length_map,Array.length_toList];omega)
  ·rw[hns] at hb
   obtain ⟨j,hj,rfl⟩:=mem_getD hb
   rw[List.length_map,Array.length_toList] at hj
   rw[<-numAt_eq];exact h5 j (by omega)
end
set_option tactic.hygienic true
section
variable {C:Cx} {p:Program} {sc:Scope} {k:Nat}
noncomputable def tz:ST:=fun _ _ _=>False
theorem oh {st:Stmt}:HS1 C sc k st tz:=⟨fun _ _ _ _ _ _ _ _ _ _ _ _ q _=>q.elim⟩
@[reducible] noncomputable def se (T:gJ):bX:=fun m σ Q X=>T m σ (sQ m Q) (rP m X)
theorem uN {pos:Pos} {value:Expr} {T:gJ} (he:HEX C sc k value T) (hs:∀env,EnvOk env sc->swapsWith value Option.none pos.line env=pure false):HSX1 C sc k (.Expr value pos) (se T):=by
 refine⟨?_⟩;intro env A s m σ Q X P E en ao R F W q hP hX
 have hi:interactive env=false:=by unfold interactive;rw[en.k];rfl
 rw[exec_Expr env value pos hi (hs env en)]
 refine wpAny_bind (wpAny_standAt (wpAny_bind (he.run env A s m σ _ _ _ E en ao R F W q (fun v w σ₁ s₁ hv R₁ S₁ q₁=>?_) (AftXc.of R F hX))))
 exact wpAny_dropValue (hP .next .next m σ₁ s₁ .next R₁ (F.step R S₁) S₁.own q₁)
section
variable {m:aq} {σ:ae} {Q:Fl->aq->ae->Prop} {X:XT} {R:V->ae->Prop} {Y:String->ae->Prop}
@[simp] theorem vJ {T:gJ}:se T m σ Q X=T m σ (fun _ σ'=>Q .next m σ') fun c σ'=>X c m σ':=rfl
end
noncomputable def hV (a:Int):List V:=(List.range (a+1).toNat).map fun (i:Nat)=>.int (a-i)
theorem rF (hz:C.held=none) (I:Addr) (a:Int) (n:Nat):It C k I ((List.range n).map fun (i:Nat)=>V.int (a-i)) (fun _=>True) (fun i h=>IsRangeIter h I (a+(i:Nat)*(-1)) ((n:Int)-(i:Nat)) (-1)):=mD hz I a (-1) n (fun i=>a-(i:Nat)) fun i=>by rw[Int.mul_neg,Int.mul_one];rfl
noncomputable def onH (vs:List V) (F:Int->List V->Prop):Prop:=match vs with | a::r=>isI a fun x=>F x r | _=>False
theorem onH.elim {vs:List V} {F:Int->List V->Prop} (h:onH vs F):∃x r,vs=.int x::r/\F x r:=by
 rcases vs with _ | ⟨a,r⟩
 ·exact False.elim h
 ·obtain ⟨x,rfl,h⟩:=isI.elim h;exact⟨x,r,rfl,h⟩
noncomputable def lx (vs:List V) (σ:ae) (Q:List V->(ae->Prop)->ae->Prop):Prop:=
 onH vs fun a r=>onH r fun b r=>onI r fun c=>(b=-1/\c=-1/\0<=a/\a < 1000000)/\Q (hV a) (fun _=>True) σ
@[reducible] noncomputable def qd (L:LT):IT:=fun m σ Q=>L m σ fun vs σ'=>lx vs σ' Q
theorem cF {a:Int} (h:0<=a):Builtin.Range.rangeSize a (-1) (-1)=a+1:=by
 unfold Builtin.Range.rangeSize
 simp
 omega
theorem kN {a:Int} (h0:0<=a) (h9:a < 1000000):Builtin.Range.small a (-1) (-1)=true:=by
 unfold Builtin.Range.small
 rw[cF h0]
 simp only[Builtin.Range.rangeFitsLong,Bool.and_eq_true,Bool.or_eq_true,decide_eq_true_eq,beq_iff_eq,show ¬((-1:Int) > 0) by decide,if_false]
 simp
 omega
theorem VRels.ints3 {aS:Addr} {h:Heap} {a b c:Int} {ws:List Value} {P:List Value->Prop} (x:VRels aS h [.int a,.int b,.int c] ws) (k:∀t u v,P [.int a t,.int b u,.int c v]):P ws:=by
 obtain ⟨w,r,rfl,h1,x1⟩:=x.invC
 obtain ⟨w,s,rfl,h2,x2⟩:=x1.invC
 obtain ⟨w,q,rfl,h3,x3⟩:=x2.invC
 obtain ⟨t,rfl⟩:=h1.invInt
 obtain ⟨u,rfl⟩:=h2.invInt
 obtain ⟨v,rfl⟩:=h3.invInt
 rw[x3.inv0];exact k t u v
theorem r4 (G:Gl C p) (hz:C.held=none) {np pos:Pos} {es:List Expr} {L:LT} (hn:sc.names.lookup (Str.ofString "range")=some .globalImplicit) (hl:HL C sc k es L) (hp:ah es=true) :
  HI C sc k (.Call (.Name (Str.ofString "range") np) es [] pos) (qd L):=by
 refine⟨?_⟩;intro env A s m σ Q P E en ao R F q hP
 have O:=G.ok
 refine wpAny_Call_NameR (Calls.Name_function_global en.k (en.of hn) (Calls.loadGlobal_builtin (mg:=C.mg) (mb:=C.mb) (by rw[en.globals];exact O.g.keeps R.base) (G.free _ (by decide)) (by rw[en.builtins];exact O.b.keeps R.base) (G.blt gH (by decide)) ?_) (by decide))
 refine PySem.callWith_type (aA hp) (au hp (hl.run env A s m σ pos _ _ E en ao R F q fun vs ws σ₁ s₁ hv R₁ S₁ q₁=>?_))
 have fr:s.heap.objs.size<=s₁.heap.objs.size+1:=Nat.le_succ_of_le S₁.size
 have hσ:σ₁ (s₁.heap.objs.size+1)=Option.none:=R₁.freshNone (ai (Nat.le_succ _))
 show wpAny _ A (PySem.call (.type "range") ([]++ws)) _ _ _
 rw[List.nil_append]
 obtain ⟨a,_,rfl,q2⟩:=onH.elim q₁
 obtain ⟨b,_,rfl,q3⟩:=onH.elim q2
 obtain ⟨c,rfl,q4⟩:=onI.elim q3
 obtain ⟨⟨rfl,rfl,h0,h9⟩,q5⟩:=q4
 refine VRels.ints3 (P:=fun ws=>wpAny _ A (PySem.call (.type "range") ws) _ _ _) hv fun t u v=>call_range_3 (by decide) ?_ (Or.inl (PyProof.noPylong_small (by decide)))
 refine wpAny_pyIter_range (IsRange.new ..) (kN h0 h9) ?_
 rw[cF h0,<-Int.toNat_of_nonneg (Int.add_nonneg h0 (by decide:(0:Int)<=1)),Heap.size_push]
 refine hP _ _ _ _ σ₁ _ (rF hz (s₁.heap.objs.size+1) a (a+1).toNat) ?_ fr hσ (R₁.grow fun _ _ e=>ay _ _ (ay _ _ e)) ((S₁.trans .push).trans .push) q5
 show Heap.get? _ _=some {cls:=.type "range_iterator",data:=.fields #[rawInt (a+((0:Nat):Int)*(-1)),rawInt ((a+1).toNat-((0:Nat):Int)),rawInt (-1)]}
 rw[Int.natCast_zero,Int.zero_mul,Int.add_zero,Int.sub_zero,<-Heap.size_push]
 exact Heap.get?_push_size _ rfl
end
theorem sL {C:Cx} {bk N:Addr} {mN:Str->Option Value} (B:Bk C bk N mN) {K:Frag} (KX:K.In C.hB) {x:Str} {v:Value} (hn:nsIn K N x=some (some v)):mN x=some v:=by
 refine x3_4 B.cls.ns fun o es ep ho hd _ hf=>?_
 unfold nsIn at hn
 split at hn
 ·rename_i c d es' n' sl q
  have:=KX _ _ q
  rw[ho] at this
  cases this
  cases hd
  split at hn
  ·rename_i en he
   have hv:=Option.some.inj (Option.some.inj hn)
   rw[<-hf,<-hv]
   unfold nsFind findBy
   rw[<-Array.find?_toList,he]
   rfl
  ·split at hn<;>cases hn
 ·cases hn
theorem MtAt.mk {C:Cx} (O:C.Ok) {bk N:Addr} {mN:Str->Option Value} (B:Bk C bk N mN) {K:Frag} (KX:K.In C.hB) {f:String} {xs:List String} {j:Nat} {spec:aK} {T:ST} {fa:Addr} {oc:Obj} {fd:FuncData} {body:List Stmt} {sc:Scope}
  (hm:K.lookup fa=some oc/\oc.cls=.type "function"/\oc.data=.func fd/\codeIn K fd.code fd.qualname=true/\fd.body=.stmts body/\fd.scope=sc/\fd.closure=[]/\fd.globals=mainGlobals/\fd.builtins=builtinsNs) (hn:nsIn K N (Str.ofString f)=some (some (.ref fa)))
  (hk:sc.kind=.function) (hfr:(sc.names.all fun q=>q.2 != .free)=true) (hco:sc.isCoroutine=false) (hgen:sc.isGenerator=false) (hlen:True=True)
  (hbind:∀(ws:List Value),ws.length=xs.length->bindArgs fd ⟨ws,[]⟩=pure ((xs.map Str.ofString).zip ws))
  (hloc:(xs.all fun x=>sc.names.lookup (Str.ofString x) == some .local||sc.names.lookup (Str.ofString x) == some .cell)=true)
  (hT:HS C sc j body T)
  (hspec:∀vs σ Q,spec vs σ Q->vs.length=xs.length/\T (bD xs vs cZ) σ (fin Q)):MtAt C mN j f spec:=by
 obtain ⟨h1,h2,h3,h4,h5,h6,h7,h8,h9⟩:=hm
 refine⟨fa,oc,fd,?_,KX _ _ h1,h2,h3,FnSound.mk O (xs:=xs) (KX _ _ h1) h3 (codeRec_of KX h4) h5 h6 h7 h8 h9 hk ?_ hco hgen hbind ?_ hT hspec⟩
 ·exact sL B KX hn
 ·intro q hq
  have:=List.all_eq_true.mp hfr q hq
  simpa using this
 ·intro x hx
  have:=List.all_eq_true.mp hloc x hx
  simp only[Bool.or_eq_true,beq_iff_eq] at this
  exact this
theorem MtAtX.mk {C:Cx} (O:C.Ok) {bk N:Addr} {mN:Str->Option Value} (B:Bk C bk N mN) {K:Frag} (KX:K.In C.hB) {f:String} {xs:List String} {j:Nat} {spec:bE} {T:bX} {fa:Addr} {oc:Obj} {fd:FuncData} {body:List Stmt} {sc:Scope}
  (hm:K.lookup fa=some oc/\oc.cls=.type "function"/\oc.data=.func fd/\codeIn K fd.code fd.qualname=true/\fd.body=.stmts body/\fd.scope=sc/\fd.closure=[]/\fd.globals=mainGlobals/\fd.builtins=builtinsNs) (hn:nsIn K N (Str.ofString f)=some (some (.ref fa)))
  (hk:sc.kind=.function) (hfr:(sc.names.all fun q=>q.2 != .free)=true) (hco:sc.isCoroutine=false) (hgen:sc.isGenerator=false) (hlen:True=True)
  (hbind:∀(ws:List Value),ws.length=xs.length->bindArgs fd ⟨ws,[]⟩=pure ((xs.map Str.ofString).zip ws))
  (hloc:(xs.all fun x=>sc.names.lookup (Str.ofString x) == some .local||sc.names.lookup (Str.ofString x) == some .cell)=true)
  (hT:HSX C sc j body T)
  (hspec:∀vs σ Q X,spec vs σ Q X->vs.length=xs.length/\T (bD xs vs cZ) σ (fin Q) (fun c _ σ'=>X c σ')):MtAtX C mN j f spec:=by
 obtain ⟨h1,h2,h3,h4,h5,h6,h7,h8,h9⟩:=hm
 refine⟨fa,oc,fd,?_,KX _ _ h1,h2,h3,FnSoundX.mk O (xs:=xs) (KX _ _ h1) h3 (codeRec_of KX h4) h5 h6 h7 h8 h9 hk ?_ hco hgen hbind ?_ hT hspec⟩
 ·exact sL B KX hn
 ·intro q hq
  have:=List.all_eq_true.mp hfr q hq
  simpa using this
 ·intro x hx
  have:=List.all_eq_true.mp hloc x hx
  simp only[Bool.or_eq_true,beq_iff_eq] at this
  exact this
abbrev vz:=aq->ae->(Bool->ae->Prop)->(String->ae->Prop)->Prop
structure HBX (C:Cx) (sc:Scope) (k:Nat) (e:Expr) (T:vz):Prop where
 run:∀(env:Env) (A:Around) (s:Shared) (m:aq) (σ:ae) (Q:Bool->ae->Prop) (X:String->ae->Prop) (P:Bool->Shared->Prop) (E:Value->Shared->Prop),
  EnvOk env sc->AOk C A k->RelG C σ s->FrameRel C env m σ s.heap->FOk C A env σ s.heap->T m σ Q X->
  (∀b σ' s',RelG C σ' s'->Step no σ σ' s.heap s'.heap->Q b σ'->P b s')->AftXc C σ s X E->
  wpAny (model C.prog C.w) A (isTrue e env (eval e env)) P E s
section
variable {C:Cx} {sc:Scope} {k:Nat}
@[reducible] noncomputable def vK (op:O2) (T:gJ) (U:ET):vz:=fun m σ Q X=>T m σ (fun a σ₁=>U m σ₁ fun b σ₂=>op a b σ₂ fun v σ₃=>isB v fun x=>Q x σ₃) X
theorem zb {op:O2} {o:CmpOp} {l r:Expr} {pos:Pos} {T:gJ} {U:ET} (hop:Op2 C k (compareOp o) op) (hl:HEX C sc k l T) (hr:HE C sc k r U) (hm:behindInMarks o r=false):HBX C sc k (.Compare l [o] [r] pos) (vK op T U):=by
 refine⟨?_⟩;intro env A s m σ Q X P E en ao R F W q hP hX
 refine wpAny_isTrue_Compare1 ?_ hm
 refine hl.run env A s m σ _ X _ E en ao R F W q (fun a wa σ₁ s₁ va R₁ S₁ q₁=>?_) hX
 refine hr.run env A s₁ m σ₁ _ _ E en ao R₁ (F.step R S₁) q₁ fun b wb σ₂ s₂ vb R₂ S₂ q₂=>?_
 refine hop A s₂ σ₂ a b wa wb _ _ E ao R₂ (va.keep (S₂.tupsN R₁)) vb q₂ fun v w σ' s' hv R' S' q'=>?_
 replace q':=isB.elim q'
 obtain ⟨x,rfl,q'⟩:=q'
 obtain rfl:=hv.invBool
 exact wpAny_truthy_bool (hP x σ' s' R' ((S₁.trans S₂).trans S') q')
@[reducible] noncomputable def vH (B:vz) (T U:bX):bX:=fun m σ Q X=>B m σ (AL T U m Q X) (rP m X)
theorem vk {pos:Pos} {test:Expr} {a b:List Stmt} {B:vz} {T U:bX} (hb:HBX C sc k test B) (h1:HSX C sc k a T) (h2:HSX C sc k b U):HSX1 C sc k (.If test a b pos) (vH B T U):=by
 refine⟨?_⟩;intro env A s m σ Q X P E en ao R F W q hP hX
 refine wpAny_If (hb.run env A s m σ _ _ _ E en ao R F W q (fun b σ₁ s₁ R₁ S₁ q₁=>?_) (AftXc.of R F hX))
 have S:=S₁.own (env:=env)
 have hP':oj C env σ₁ s₁ Q P:=fun f g m₂ σ₂ s₂ hf R₂ F₂ S₂ q₂=>hP f g m₂ σ₂ s₂ hf R₂ F₂ (S.trans S₂) q₂
 cases b with
 |true=>exact h1.run env A s₁ m σ₁ Q X P E en ao R₁ (F.step R S₁) (W.step S) q₁ hP' (AftX.later hX S)
 |false=>exact h2.run env A s₁ m σ₁ Q X P E en ao R₁ (F.step R S₁) (W.step S) q₁ hP' (AftX.later hX S)
@[simp] theorem yj {op:O2} {T:gJ} {U:ET} {m:aq} {σ:ae} {Q:Bool->ae->Prop} {X:String->ae->Prop}:vK op T U m σ Q X=T m σ (fun a σ₁=>U m σ₁ fun b σ₂=>op a b σ₂ fun v σ₃=>isB v fun x=>Q x σ₃) X:=rfl
@[simp] theorem yh {B:vz} {T U:bX} {m:aq} {σ:ae} {Q:Fl->aq->ae->Prop} {X:XT}:vH B T U m σ Q X=B m σ (fun b σ'=>if b then T m σ' Q X else U m σ' Q X) fun c σ'=>X c m σ':=rfl
end
set_option tactic.hygienic false
noncomputable def isC (d:Data) (f:ClassData->Bool):Bool:=match d with | .cls c=>f c | _=>false
theorem isC.elim {d:Data} {f:ClassData->Bool} (h:isC d f=true):∃c,d=.cls c/\f c=true:=by
 cases d<;>first | exact Bool.noConfusion h | exact⟨_,rfl,h⟩
noncomputable def hd1 {α:Type} (l:List α) (f:α->List α->Bool):Bool:=match l with | []=>false | a::r=>f a r
theorem hd1.elim {α:Type} {l:List α} {f:α->List α->Bool} (h:hd1 l f=true):∃a r,l=a::r/\f a r=true:=by
 cases l with
 |nil=>exact Bool.noConfusion h
 |cons a r=>exact⟨a,r,rfl,h⟩
noncomputable def AR (K:Frag) (Cl N:Addr) (cd:ClassData):Bool:=cd.mro == [.ref Cl,.type "object"]&&cd.hasDict&&!cd.abstract&&!cd.hasDel&&cd.ns == N&&nsOkIn K N&&["__getattribute__","__getattr__","__setattr__","trees","made_of"].all (fun n=>nsIn K N (Str.ofString n) == some none)
noncomputable def bkS (l:List (Option Value)):Bool:=hd1 l fun _ l=>hd1 l fun _ l=>hd1 l fun _ l=>hd1 l fun _ l=>hd1 l fun n l=>n == some (.builtin "object.__new__")&&hd1 l fun _ l=>l.isEmpty
theorem bkS.elim {l:List (Option Value)} (h:bkS l=true):∃k0 k1 k2 k3 k5,l=[k0,k1,k2,k3,some (.builtin "object.__new__"),k5]:=by
 obtain ⟨k0,_,rfl,h0⟩:=hd1.elim h
 obtain ⟨k1,_,rfl,h1⟩:=hd1.elim h0
 obtain ⟨k2,_,rfl,h2⟩:=hd1.elim h1
 obtain ⟨k3,_,rfl,h3⟩:=hd1.elim h2
 obtain ⟨k4,_,rfl,h4⟩:=hd1.elim h3
 have h5:=(Bool.and_eq_true _ _).mp h4
 obtain ⟨k5,_,rfl,h6⟩:=hd1.elim h5.2
 rw[List.isEmpty_iff.mp h6,beq_iff_eq.mp h5.1]
 exact⟨k0,k1,k2,k3,k5,rfl⟩
noncomputable def xK (K:Frag) (Cl N:Addr):Bool:=(K.lookup Cl).any fun o=>o.cls == .type "type"&&isC o.data (AR K Cl N)&&bkS o.slots.toList
theorem qy {C:Cx} {K:Frag} {Cl N:Addr} (X:K.In C.hB) (q:xK K Cl N=true) (hg:C.mg (Str.ofString "Book")=some (.ref Cl)):∃mN,Bk C Cl N mN:=by
 obtain ⟨⟨c,dd,d,⟨sl⟩⟩,ho,q⟩:=(Option.any_eq_true _ _).mp q
 rw[Bool.and_eq_true,Bool.and_eq_true,beq_iff_eq] at q
 obtain ⟨⟨q1,q2⟩,q3⟩:=q
 obtain ⟨cd,rfl,q⟩:=isC.elim q2
 obtain ⟨k0,k1,k2,k3,k5,rfl⟩:=bkS.elim q3
 cases q1
 obtain ⟨nm,bs,mro,ns,qn,hd,sn,sub,ab,col,AQ⟩:=cd
 unfold AR at q
 simp only[Bool.and_eq_true,beq_iff_eq,Bool.not_eq_true'] at q
 obtain ⟨⟨⟨⟨⟨⟨rfl,rfl⟩,rfl⟩,rfl⟩,rfl⟩,hok⟩,hni⟩:=q
 exact⟨_,hg,⟨⟨nm,qn,bs,sn,sub,col,dd,k0,k1,k2,k3,k5,X _ _ ho⟩,.of_isNs (isNs_of_in X hok)⟩,fun n hn=>nsMap_none_of_in X hok (beq_iff_eq.mp (List.all_eq_true.mp hni n hn))⟩
noncomputable def uJ (x:String) (v:V) (σ:ae) (Q:V->ae->Prop):Prop:=∃a dx fs t,v=.ref a/\σ a=some (.inst dx)/\σ dx=some (.ns fs)/\fs.lookup x=some (.ref t)/\Q (.ref t) σ
noncomputable def lk (f:String) (v:V) (σ:ae):Prop:=∃a dx fs,v=.ref a/\σ a=some (.inst dx)/\σ dx=some (.ns fs)/\fs.lookup f=none
noncomputable def v6 (x:String) (v o:V) (σ:ae) (F:ae->Prop):Prop:=∃a dx fs,o=.ref a/\σ a=some (.inst dx)/\σ dx=some (.ns fs)/\fs.length < 1000/\F (am σ dx (.ns ((x,v)::fs)))
section
variable {m:aq} {σ:ae} {Q:V->ae->Prop} {X:String->ae->Prop} {R:Fl->aq->ae->Prop} {J:List V->(ae->Prop)->ae->Prop} {ns:List Int}
@[simp] theorem xy {x:String} {T:ET}:sU x T m σ Q=T m σ fun v σ'=>uJ x v σ' Q:=rfl
@[simp] theorem vd {f:String} {spec:aK} {T:ET} {L:LT}:qm f spec T L m σ Q=T m σ fun v σ₁=>lk f v σ₁/\L m σ₁ fun vs σ₂=>spec (v::vs) σ₂ Q:=rfl
@[simp] theorem uW {f:String} {spec:bE} {T:ET} {L:LT}:oy f spec T L m σ Q X=T m σ fun v σ₁=>lk f v σ₁/\L m σ₁ fun vs σ₂=>spec (v::vs) σ₂ Q X:=rfl
@[simp] theorem v8 {x:String} {T To:ET}:sA x T To m σ R=T m σ fun v σ₁=>To m σ₁ fun o σ₂=>v6 x v o σ₂ fun σ₃=>R .next m σ₃:=rfl
@[simp] theorem yM {spec:aK}:xi spec m σ Q=∀a dx,σ a=none->σ dx=none->dx≠a->spec [.ref a] (am (am σ dx (.ns [])) a (.inst dx)) fun r σ'=>r=.none/\Q (.ref a) σ':=rfl
noncomputable def sO (v:V) (F:Int->Prop):Prop:=∃i,v=.int i/\F i
@[simp] theorem u6 (i:Int) (F:Int->Prop):sO (.int i) F=F i:=propext ⟨fun ⟨_,e,h⟩=>by cases e;exact h,fun h=>⟨i,rfl,h⟩⟩
noncomputable def sN (v:V) (F:Str->Prop):Prop:=∃i,v=.str i/\F i
@[simp] theorem u5 (i:Str) (F:Str->Prop):sN (.str i) F=F i:=propext ⟨fun ⟨_,e,h⟩=>by cases e;exact h,fun h=>⟨i,rfl,h⟩⟩
@[simp] theorem uv {T U:ET}:mJ T U m σ Q=T m σ fun v σ₁=>U m σ₁ fun u σ₂=>sO v fun i=>wG [(i,u)] σ₂ Q:=rfl
@[simp] theorem uu {T U:ET}:rR T U m σ Q=T m σ fun v σ₁=>U m σ₁ fun u σ₂=>sN v fun i=>ld [(i,u)] σ₂ Q:=rfl
@[simp] theorem wX {L:LT}:qd L m σ J=L m σ fun vs σ'=>lx vs σ' J:=rfl
@[simp] theorem z6 {a b c:Int}:lx [.int a,.int b,.int c] σ J=((b=-1/\c=-1/\0<=a/\a < 1000000)/\J (hV a) (fun _=>True) σ):=rfl
theorem m8 {a:Addr} {kvs:List (Int×V)} {ep:Nat} {x:Int} {v:V} {R:ae->Prop} (h:σ a=some (.idict kvs ep)) (hz:kvs.length < 16777216) (q:∀ep',R (am σ a (.idict (bd kvs x v) ep'))):tt (.ref a) (.int x) v σ R:=⟨kvs,ep,h,hz,q⟩
theorem qc {a:Addr} {kvs:List (Int×V)} {ep:Nat} {x:Int} (h:σ a=some (.idict kvs ep)) (q:Q (.bool (jP kvs x).isSome) σ):pv (.int x) (.ref a) σ Q:=⟨kvs,ep,h,q⟩
theorem pR {a:Addr} {ys:List Int} (h:σ a=some (.list (ys.map .int))) (hn:0 < ys.length) (q:∀M,M∈ys->(∀b,b∈ys->b<=M)->Q (.int M) σ):kM [.ref a] σ Q:=⟨ys,h,hn,q⟩
end
theorem qs {a:Int} {i:Nat} {v:V} (h:(hV a)[i]?=some v):i < (a+1).toNat/\v=.int (a-i):=by
 unfold hV at h
 rw[List.getElem?_map] at h
 obtain ⟨j,hj,rfl⟩:=Option.map_eq_some_iff.mp h
 obtain ⟨h1,h2⟩:=List.getElem?_eq_some_iff.mp hj
 simp at h1 h2
 subst h2
 exact⟨by omega,rfl⟩
theorem qr (a:Int):(hV a).length=(a+1).toNat:=by simp[hV]
theorem eZ (kvs:List (Int×V)) (x:Int):(jP kvs x).isSome=decide (x∈kvs.map (·.1)):=by
 unfold jP
 rw[Option.isSome_map,Bool.eq_iff_iff,List.find?_isSome]
 simp
theorem iH (kvs:List (Int×V)) (k:Int) (v:V):∀x,x∈(bd kvs k v).map (·.1)↔x=k\/x∈kvs.map (·.1):=by
 intro x
 unfold bd
 split
 ·rename_i h
  have e:(kvs.map fun kv=>if kv.1=k then (kv.1,v) else kv).map (·.1)=kvs.map (·.1):=by
   rw[List.map_map];apply List.map_congr_left;intro q _;simp only[Function.comp];split<;>rfl
  rw[e]
  have hk:k∈kvs.map (·.1):=by
   refine x1_2 (List.any_eq_true.mp h) fun q hq e=>?_
   exact List.mem_map.mpr ⟨q,hq,by simpa using e⟩
  constructor
  ·exact .inr
  ·rintro (rfl | h)
   ·exact hk
   ·exact h
 ·simp only[List.map_append,List.mem_append,List.map_cons,List.map_nil,List.mem_singleton]
  constructor
  ·rintro (h | h)
   ·exact .inr h
   ·exact .inl h
  ·rintro (h | h)
   ·exact .inr h
   ·exact .inl h
theorem gP {kvs:List (Int×V)} {k:Int} {v:V} (h:(kvs.map (·.1)).Nodup):((bd kvs k v).map (·.1)).Nodup:=by
 unfold bd
 split
 ·have e:(kvs.map fun kv=>if kv.1=k then (kv.1,v) else kv).map (·.1)=kvs.map (·.1):=by
   rw[List.map_map];apply List.map_congr_left;intro q _;simp only[Function.comp];split<;>rfl
  rw[e];exact h
 ·rename_i hn
  rw[List.map_append,List.nodup_append]
  refine⟨h,by simp,?_⟩
  intro a ha b hb
  simp at hb
  subst hb
  rintro rfl
  refine x1_2 (List.mem_map.mp ha) fun q hq e=>?_
  exact hn (List.any_eq_true.mpr ⟨q,hq,by simpa using e⟩)
section
variable {C:Cx} {p:Program} {sc:Scope} {k:Nat}
noncomputable def jx (f g:O2):O2:=fun a b σ Q=>f a b σ Q\/g a b σ Q
theorem Op2.or {t:Value->Value->Sem Value} {f g:O2} (hf:Op2 C k t f) (hg:Op2 C k t g):Op2 C k t (jx f g):=fun A s σ a b wa wb Q P E ao R va vb q hP=>
 q.elim (fun q=>hf A s σ a b wa wb Q P E ao R va vb q hP) fun q=>hg A s σ a b wa wb Q P E ao R va vb q hP
noncomputable def to (f g:aK):aK:=fun vs σ Q=>f vs σ Q\/g vs σ Q
theorem OpN.or {t:List Value->Sem Value} {f g:aK} (hf:OpN C k t f) (hg:OpN C k t g):OpN C k t (to f g):=fun A s σ vs ws Q P E ao R hv q hP=>
 q.elim (fun q=>hf A s σ vs ws Q P E ao R hv q hP) fun q=>hg A s σ vs ws Q P E ao R hv q hP
abbrev rY:=V->V->V->ae->(ae->Prop)->Prop
noncomputable def o8 (f g:rY):rY:=fun o i v σ Q=>f o i v σ Q\/g o i v σ Q
theorem OpSet.or {f g:rY} (hf:OpSet C k f) (hg:OpSet C k g):OpSet C k (o8 f g):=fun A s σ o i v wo wi w Q P E ao R h1 h2 h3 q hP=>
 q.elim (fun q=>hf A s σ o i v wo wi w Q P E ao R h1 h2 h3 q hP) fun q=>hg A s σ o i v wo wi w Q P E ao R h1 h2 h3 q hP
@[reducible] noncomputable def z5 (T U:ET):ET:=fun m σ Q=>T m σ Q\/U m σ Q
theorem HE.or {e:Expr} {T U:ET} (h1:HE C sc k e T) (h2:HE C sc k e U):HE C sc k e (z5 T U):=
 ⟨fun env A s m σ Q P E en ao R F q hP=>q.elim (fun q=>h1.run env A s m σ Q P E en ao R F q hP) fun q=>h2.run env A s m σ Q P E en ao R F q hP⟩
noncomputable def pz:O2:=jx sJ (jx px pv)
theorem AE (O:C.Ok):Op2 C k (compareOp .In) pz:=.or tW (.or (tY O) (tX O))
noncomputable def my:O2:=jx jy (jx jz fX)
theorem zv (O:C.Ok):Op2 C k (compareOp .NotIn) my:=.or nn (.or nq (nv O))
noncomputable def bl (ns:List Int):O2:=jx (fY ns) iD
theorem AU (G:Gl C p) {value slice:Expr} {pos:Pos} {T U:ET} (hv:HE C sc k value T) (hi:HE C sc k slice U) (hs:ff slice):HE C sc k (.Subscript value slice pos) (bQ (bl C.ns) T U):=
 uQ hv hi (.or (ru G.ok hs) (pD hs))
noncomputable def dg:rY:=o8 tu (o8 tq tt)
theorem uZ:OpSet C k dg:=.or rn (.or rl rm)
noncomputable def jp:aK:=fun vs σ Q=>onR vs fun a=>∃kvs ep,σ a=some (.dict kvs ep)/\∀ep',Q .none (am σ a (.dict [] ep'))
theorem nw:OpN C k (fun ws=>PySem.call (.builtin "dict.clear") ws) jp:=by
 intro A s σ vs ws Q P E ao R hv q hP
 obtain ⟨a,rfl,kvs,ep,hx,q⟩:=onR.elim q
 obtain ⟨wa,rfl,h1⟩:=hv.inv1
 obtain rfl:=h1.invRef
 obtain ⟨hz,kws,h3,h4⟩:=R.view _ _ hx
 have e:=h4.length
 refine call_meetsIn _root_.PySem.F.slot_dict_clear h3.dictOf.typeIs _root_.PySem.F.entry_dict_clear (_root_.PySem.F.args_dict_clear_1 _) (meets_dict_clear (knd:=PySem.strKind C.prog C.w) (d:=a)) ⟨kws,h3.dictOf,by rw[<-e,sizeLine_eq];exact hz,fun h' hd hs'=>?_⟩
 refine x1_1 hd.dictAt fun ep' hat=>?_
 exact hP .none .none (am σ a (.dict [] ep')) _ .none (R.change (tk:=s.toks) hx hs' ⟨Nat.zero_le _,[],hat,trivial⟩) (.change hx hs') (q ep')
theorem vq {o:Expr} {apos pos:Pos} {es:List Expr} {To:ET} {L:LT} (ho:HE C sc k o To) (hl:HL C sc k es L) (hp:ah es=true)
  (hbase:∀env,attributeBase o (Str.ofString "clear") env (eval o env)=eval o env) (hline:(apos.endLine == pos.line)=true) (hfew:es.length < 30):HE C sc k (.Call (.Attribute o (Str.ofString "clear") apos) es [] pos) (z5 (co d7 iw To L) (co fz jp To L)):=
 (qJ ho hl hp hbase hline hfew).or (bY ee F.plainAttrs_dict F.slot_dict_clear F.type_dict_clear nw ho hl hp hbase hline hfew)
inductive SameP (σ:ae):V->V->Prop
 |list (p q:Addr) (xs:List V) (hp:σ p=some (.list xs)) (hq:σ q=some (.list xs)) (h:∀x∈xs,∃l:List Str,x=.tup (l.map .str)):SameP σ (.ref p) (.ref q)
 |tup (xs:List V) (h:∀x∈xs,veq0 x x=some true):SameP σ (.tup xs) (.tup xs)
noncomputable def po:O2:=fun a b σ Q=>sH a b σ Q\/(SameD σ a b\/SameP σ a b)/\Q (.bool false) σ
theorem gA {A:Around} {s:Shared} {xs:List V} {ws us:List Value} (h:∀x∈xs,∀{wa wb:Value},VRel C.aS s.heap x wa->VRel C.aS s.heap x wb->SeqAt.EqAt A s wa wb true) (hx:VRels C.aS s.heap xs ws) (hy:VRels C.aS s.heap xs us) (j:Nat) (h1:j < ws.toArray.size) (h2:j < us.toArray.size):SeqAt.EqAt A s ws.toArray[j] us.toArray[j] true:=by
 rw[List.size_toArray] at h1 h2
 obtain ⟨x,hx1,hx2⟩:=hx.get' (i:=j) (w:=ws[j]) (List.getElem?_eq_getElem h1)
 obtain ⟨y,hy1,hy2⟩:=hy.get' (i:=j) (w:=us[j]) (List.getElem?_eq_getElem h2)
 rw[hx1] at hy1;cases Option.some.inj hy1
 exact h x (List.mem_of_getElem? hx1) hx2 hy2
theorem xg {A:Around} {s:Shared} {xs:List V} {wa wb:Value} (h:∀x∈xs,veq0 x x=some true) (va:VRel C.aS s.heap (.tup xs) wa) (vb:VRel C.aS s.heap (.tup xs) wb) (hu:A.units < cLine):SeqAt.EqAt A s wa wb true:=by
 cases va with | @tup _ p ws ht hvs=>cases vb with | @tup _ q us ht' hus=>
 by_cases hne:p=q
 ·subst hne;exact SeqAt.EqAt.same _
 ·have:=SeqAt.RcAt.tuples (e:=fun _=>true) ht ht' hu (gA (fun x hx _ _ v1 v2=>ql (h x hx) v1 v2) hvs hus)
  rw[List.all_eq_true.mpr fun _ _=>rfl,List.size_toArray,List.size_toArray,<-hvs.length,<-hus.length,beq_self_eq_true] at this
  exact SeqAt.EqAt.of_refs hne this
theorem AD (O:C.Ok):Op2 C k (compareOp .NotEq) po:=by
 intro A s σ a b wa wb Q P E ao R va vb q hP
 rcases q with q | ⟨d | h,q⟩
 ·exact tN A s σ a b wa wb Q P E ao R va vb q hP
 ·exact ro O A s σ a b wa wb Q P E ao R va vb ⟨d,q⟩ hP
 ·have u2:=oE ao
  have u0:A.units < cLine:=Nat.lt_of_le_of_lt (Nat.le_succ _) u2
  cases h with
  |list p z xs hp hq h=>
   obtain rfl:=va.invRef;obtain rfl:=vb.invRef
   obtain ⟨_,ws,h1,h2⟩:=R.view _ _ hp
   obtain ⟨_,us,h3,h4⟩:=R.view _ _ hq
   have:=SeqAt.RcNeAt.lists (e:=fun _=>true) h1.isList h3.isList (by rw[List.size_toArray,List.size_toArray,<-h2.length,<-h4.length]) u0 (gA (fun x hx _ _ v1 v2=>by
    obtain ⟨l,rfl⟩:=h x hx
    exact xg (fun y hy=>by obtain ⟨z,_,rfl⟩:=List.mem_map.mp hy;exact congrArg some (decide_eq_true rfl)) v1 v2 u2) h2 h4)
   rw[List.all_eq_true.mpr fun _ _=>rfl] at this
   exact this C.prog C.w E P (hP _ _ σ s (.bool false) R Step.refl q)
  |tup xs h=>
   cases va with | tup ht hvs=>cases vb with | tup ht' hus=>
   have:=SeqAt.RcNeAt.tuples (e:=fun _=>true) ht ht' u0 (gA (fun x hx _ _ v1 v2=>ql (h x hx) v1 v2) hvs hus)
   rw[List.all_eq_true.mpr fun _ _=>rfl,List.size_toArray,List.size_toArray,<-hvs.length,<-hus.length,beq_self_eq_true] at this
   exact this C.prog C.w E P (hP _ _ σ s (.bool false) R Step.refl q)
@[reducible] noncomputable def ur (T:ET):ET:=fun m σ Q=>T m σ fun v σ₁=>isI v fun n=>(0<=n/\n<=1000)/\bq (aF 0 n.toNat) σ₁ Q
theorem r6 (G:Gl C p) (hpl:C.held=Option.none) {np pos np2 cp:Pos} {o:Expr} {T:ET} (hn:sc.names.lookup (Str.ofString "list")=some .globalImplicit) (hn2:sc.names.lookup (Str.ofString "range")=some .globalImplicit) (ho:HE C sc k o T) (hs:cg o=true) :
  HE C sc k (.Call (.Name (Str.ofString "list") np) [.Call (.Name (Str.ofString "range") np2) [o] [] cp] [] pos) (ur T):=by
 refine⟨?_⟩;intro env A s m σ Q P E en ao R F q hP
 have O:=G.ok
 refine wpAny_Call_NameR (Calls.Name_function_global en.k (en.of hn) (Calls.loadGlobal_builtin (mg:=C.mg) (mb:=C.mb) (by rw[en.globals];exact O.g.keeps R.base) (G.free _ (by decide)) (by rw[en.builtins];exact O.b.keeps R.base) (G.blt mR (by decide)) ?_) rfl)
 refine PySem.callWith_type (aA rfl) (au rfl ?_)
 show wpAny _ A (spliced ((false,eval (.Call (.Name (Str.ofString "range") np2) [o] [] cp) env)::backTo pos (starEach [] env))) _ E s
 refine Calls.spliced_cons ?_
 refine wpAny_Call_NameR (Calls.Name_function_global en.k (en.of hn2) (Calls.loadGlobal_builtin (mg:=C.mg) (mb:=C.mb) (by rw[en.globals];exact O.g.keeps R.base) (G.free _ (by decide)) (by rw[en.builtins];exact O.b.keeps R.base) (G.blt gH (by decide)) ?_) rfl)
 have hpa:ah [o]=true:=by simp[ah,hs]
 refine PySem.callWith_type (aA hpa) (au hpa ?_)
 rw[aM hs]
 show wpAny _ A (spliced ((false,eval o env)::backTo cp (starEach [] env))) _ E s
 refine Calls.spliced_cons (ho.run env A s m σ _ _ E en ao R F q fun v w σ₁ s₁ hv R₁ S₁ q₁=>?_)
 obtain ⟨n,rfl,⟨h0,h1⟩,q₁⟩:=isI.elim q₁
 obtain ⟨t,rfl⟩:=hv.invInt
 obtain ⟨n,rfl⟩:=Int.eq_ofNat_of_zero_le h0
 refine Calls.spliced_nil ?_
 show wpAny _ A (PySem.call (.type "range") [.int n t]) _ E s₁
 refine call_range_1 ?_
 refine Calls.spliced_nil ?_
 show wpAny _ A (PySem.call (.type "list") [.ref s₁.heap.objs.size]) P E _
 have hsz':Builtin.Range.rangeSize 0 n 1=(n:Int):=by rw[rangeSize_one];split<;>omega
 refine av (call_list_range (ao.none hpl) (IsRange.new ..) (small_one (by decide) (by decide) (by omega) (by omega)) hsz' (by omega) fun h' tk acc c hk hD hacc=>?_)
 intro hsz
 rw[Heap.size_push] at hsz hD ⊢
 have hk':∀b o,s₁.heap.get? b=some o->h'.get? b=some o:=fun b o e=>hk b o (Heap.get?_push_of_some _ e)
 have hn':s₁.heap.get? (s₁.heap.objs.size+1)=Option.none:=ai (Nat.le_succ _)
 have rel:VRels C.aS h' (aF 0 (n:Int).toNat) acc.toList:=by
  refine eG _ _ (by rw[Array.length_toList,hacc.1,aG];rfl) fun j v w e1 e2=>?_
  obtain ⟨t,rfl⟩:=hacc.2 j w (by rw[<-Array.getElem?_toList];exact e2)
  obtain ⟨_,rfl⟩:=aV e1
  rw[Int.mul_one];exact .int _ _
 exact hP _ _ (am σ₁ (s₁.heap.objs.size+1) (.list (aF 0 (n:Int).toNat))) _ (.ref _) (R₁.add (tk:=tk) hk' hn' ⟨by rw[aG];omega,acc.toList,⟨c,hD⟩,rel⟩) (S₁.trans (.add hk' (Nat.le_of_succ_le hsz) (Nat.le_succ _))) (q₁ _ (R₁.freshNone hn'))
noncomputable def pr:O2:=fun a b σ Q=>isR a fun l=>isI b fun n=>∃xs,σ l=some (.list xs)/\n=2/\xs.length<=1000/\bq (xs++xs) σ Q
theorem rq:Op2 C k (binaryOp .Mult) pr:=by
 intro A s σ a b wa wb Q P E ao R va vb q hP
 obtain ⟨l,rfl,q⟩:=isR.elim q
 obtain ⟨n,rfl,xs,hx,rfl,h1,q⟩:=isI.elim q
 obtain rfl:=va.invRef;cases vb with | int n u=>
 obtain ⟨hz,ws,⟨c,hl⟩,hv⟩:=R.view _ _ hx
 have e0:=hv.length
 have hn:=aH s.heap
 refine wpAny_binaryOp_repeat_ref (T:="list") (U:="int") (by decide) ⟨_,hl,rfl⟩ (fun s'=>typeIs_int s' _ u) noFill_list_mul F.fills_int_mul F.slot_int_rmul repeat_list F.slot_int_index.lookup
  (call_meets F.slot_int_rmul (typeIs_int s _ u) F.entry_int_rmul (F.args_int_rmul_2 _ _) (int___rmul___int_list _ u l _ c)
   ⟨hl,rfl,⟨_,hl,rfl⟩,call_meets F.slot_list_mul ⟨_,hl,rfl⟩ F.entry_list_mul (F.args_list_mul_2 _ _)
    (AutoListH.list___mul___list_int_3 l _ c _ u ?_ ?_ ?_) ⟨hl,?_⟩⟩)
 ·simp[Builtin.List.listFitsIndex]
 ·have e:ws.toArray.size*((2:Int)).toNat=ws.length*2:=by simp
  rw[e];omega
 ·simp[Builtin.List.listTooLong,sizeLine];omega
 ·refine hP (.ref s.heap.objs.size) _ (am σ s.heap.objs.size (.list (xs++xs))) _ (.ref _) (R.add (tk:=s.toks) ay hn ⟨by rw[List.length_append];omega,ws++ws,⟨0,?_⟩,(hv.append hv).keep fun _ _ e _=>ay _ _ e⟩) .addPush (q _ (R.freshNone hn))
  have e:(ws++ws).toArray=List.foldl (fun x y=>x++y) #[] (List.replicate (if ws.toArray.isEmpty=true then 0 else (2:Int).toNat) ws.toArray):=by cases ws<;>simp[List.replicate]
  rw[e]
  exact Heap.get?_push_size _ rfl
noncomputable def pq:O2:=jx sI (jx pp pr)
theorem yv:Op2 C k (binaryOp .Mult) pq:=.or tO (.or rp rq)
noncomputable def wF (ks:List Int) (σ:ae) (Q:V->ae->Prop):Prop:=∀ks':List Int,ks'.Perm ks->bq (ks'.map .int) σ Q
@[reducible] noncomputable def mI (T:ET):ET:=fun m σ Q=>T m σ fun v σ₁=>isR v fun a=>∃kvs ep,σ₁ a=some (.idict kvs ep)/\wF (kvs.map (·.1)) σ₁ Q
theorem HE.sortedKeysP (G:Gl C p) (hpl:C.held=Option.none) {np pos ap cp:Pos} {o:Expr} {T:ET} (hn:sc.names.lookup (Str.ofString "sorted")=some .globalImplicit) (ho:HE C sc k o T)
  (hbase:∀env,attributeBase o (Str.ofString "keys") env (eval o env)=eval o env) (hline:(ap.endLine == cp.line)=true) :
  HE C sc k (.Call (.Name (Str.ofString "sorted") np) [.Call (.Attribute o (Str.ofString "keys") ap) [] [] cp] [] pos) (mI T):=by
 refine⟨?_⟩;intro env A s m σ Q P E en ao R F q hP
 have O:=G.ok
 refine wpAny_Call_NameR (Calls.Name_function_global en.k (en.of hn) (Calls.loadGlobal_builtin (mg:=C.mg) (mb:=C.mb) (by rw[en.globals];exact O.g.keeps R.base) (G.free _ (by decide)) (by rw[en.builtins];exact O.b.keeps R.base) (G.blt cV (by decide)) ?_) rfl)
 refine Calls.callWith_builtin (aA rfl) (au rfl ?_)
 show wpAny _ A (spliced ((false,eval (.Call (.Attribute o (Str.ofString "keys") ap) [] [] cp) env)::backTo pos (starEach [] env))) _ E s
 refine Calls.spliced_cons ?_
 refine wpAny_Call_method (T:="dict") (id:="dict.keys") (hbase env) rfl hline _root_.PySem.F.plainAttrs_dict _root_.PySem.F.slot_dict_keys _root_.PySem.F.type_dict_keys ?_
 refine ho.run env A s m σ _ _ E en ao R F q fun v w σ₁ s₁ hv R₁ S₁ q₁=>?_
 obtain ⟨a,rfl,kvs,ep,hx,q₁⟩:=isR.elim q₁
 obtain rfl:=hv.invRef
 obtain ⟨hz,kws,h1,h2⟩:=R₁.view _ _ hx
 refine⟨h1.dictOf.typeIs,h1.dictOf.mapOf.noDict,?_⟩
 show wpAny _ _ (callWith cp (.builtin "dict.keys") [.ref a] [] []) _ E s₁
 refine method_meetsIn _root_.PySem.F.slot_dict_keys _root_.PySem.F.entry_dict_keys rfl (PySem.evalArgs_none ⟨rfl,h1.dictOf.typeIs,_root_.PySem.F.args_dict_keys_1 _,_,kdl_meets_keys (intKind C.prog C.w) a (O.noMods (R₁.apart a (by rw[hx];simp))),⟨kws,h1.dictOf⟩,?_⟩)
 refine Calls.spliced_nil ?_
 show wpAny _ A (PySem.call (.builtin "sorted") [.ref s₁.heap.objs.size]) P E _
 have hl:=h2.length
 have R₂:RelG C σ₁ {s₁ with heap:=s₁.heap.push {cls:=.type "dict_keys",data:=.fields #[.ref a]}}:=R₁.grow (tk:=s₁.toks) ay
 refine b7 (xs:=(kvs.map (·.1)).map .int) ao R₂ (fun R' hR=>av (kdu_collect (kdl_keys (knd:=intKind C.prog C.w) (kvs:=kws) (ep:=ep) (r:=s₁.heap.objs.size) (d:=a)) (by show A.handled=_;exact ao.none hpl)
  ⟨⟨_,Heap.get?_push_size _ rfl,rfl,rfl⟩,h1.push _⟩ (kdl_size (by omega)) fun h' tk acc hk hacc=>?_)) (.i fun x hx=>let ⟨n,_,e⟩:=List.mem_map.mp hx;⟨n,e.symm⟩) (by simpa using hz) (fun ys hy=>?_) fun v w σ' s' hv' R' S' q'=>hP v w σ' s' hv' R' ((S₁.trans .push).trans S') q'
 ·intro hsz
  exact hR h' tk s₁.drawn acc.toList _ hk hsz (jO (nK h2 (by rw[Array.length_toList];exact hacc.1) fun j v e=>hacc.2 j v (by rw[<-Array.getElem?_toList];exact e))) (List.Perm.refl _)
 ·obtain ⟨ks',rfl,hp⟩:=dJ V.int hy.symm rfl
  exact q₁ ks' hp
@[reducible] noncomputable def rQ (T:ET):ET:=z5 (lw T) (mI T)
theorem qI (G:Gl C p) (hpl:C.held=Option.none) {np pos ap cp:Pos} {o:Expr} {T:ET} (hn:sc.names.lookup (Str.ofString "sorted")=some .globalImplicit) (ho:HE C sc k o T)
  (hbase:∀env,attributeBase o (Str.ofString "keys") env (eval o env)=eval o env) (hline:(ap.endLine == cp.line)=true) :
  HE C sc k (.Call (.Name (Str.ofString "sorted") np) [.Call (.Attribute o (Str.ofString "keys") ap) [] [] cp] [] pos) (rQ T):=.or (.sortedKeys G hpl hn ho hbase hline) (.sortedKeysP G hpl hn ho hbase hline)
end
theorem iE:typeLookup (.type "list") "keys"=pure none:=by rw[typeLookup_type,builtinLookup_eq_fast];kernel_rfl
theorem jH:typeLookup (.type "list") "__getattr__"=pure none:=by rw[typeLookup_type,builtinLookup_eq_fast];kernel_rfl
section
variable {prog:Program} {w:World} {A:Around} {E:Value->Shared->Prop} {h:Heap} {g:Array GenState} {d:Drawn} {t:Nat} {os:OsState} {a:Addr} {xs:Array Value} {n:Nat}
theorem nB {x:Addr} {v0:Value} {o nm:Value} {Q:Unit->Shared->Prop} (hx:h.get? x=some {cls:=.type "AttributeError",data:=.fields #[v0,.none,.none,.none,.bool false,.none,.int 0 0,.int 0 0]}) (hq:∀h' ob,h'.get? x=some ob->ob.cls=.type "AttributeError"->(∀b o,b≠x->h.get? b=some o->h'.get? b=some o)->Q () ⟨h',g,d,t,os⟩) :
  wpAny (model prog w) A (noteAttr (.ref x) o nm) Q E ⟨h,g,d,t,os⟩:=by
 have hT:(⟨h,g,d,t,os⟩:Shared).TypeIs (.ref x) "AttributeError":=⟨_,hx,rfl⟩
 have f1:isSubtype (.type "AttributeError") (.type "AttributeError")=pure true:=by rw[isSubtype_type];kernel_rfl
 unfold noteAttr
 unfold lacksNameAndObj
 repeat (any_goals (first | assumption | wp_step))
 refine hq _ _ (Heap.get?_update_self _ hx rfl) rfl fun b o hb e=>?_
 exact (Heap.SameBut.update h x _).extBut b o hb e
theorem lf {tk:Tok} {Q:PySem.Fin->Shared->Prop} (hx:h.get? a=some {cls:=.type "list",data:=.seq xs n}) (hh:A.handled=none) (hq:∀x h' tk' ob,h'.get? x=some ob->ob.cls=.type "AttributeError"->(∀b o,h.get? b=some o->h'.get? b=some o)->E (.ref x) ⟨h',g,d,tk',os⟩) :
  wpAny (model prog w) A (Builtin.«object.__getattribute__» ⟨[.ref a,.str "keys" tk],[]⟩) Q E ⟨h,g,d,t,os⟩:=by
 have hT:(⟨h,g,d,t,os⟩:Shared).TypeIs (.ref a) "list":=⟨_,hx,rfl⟩
 have f4:=iE
 repeat (any_goals (first | assumption | wp_step))
 unfold raiseAttrError
 refine wpAny_bind (wpAny_mkStr ?_)
 refine wpAny_bind ?_
 simp only[newExc,newTuple]
 refine wpAny_bind (wpAny_newObj_type ?_ (by size_fits))
 refine wpAny_bind (m:=firstArgMember _ _) (wpAny_of_eq (a:=Value.none) (by first | rfl | (simp only[firstArgMember];rfl)) ?_)
 refine wpAny_newObj_type ?_ (by size_fits)
 refine wpAny_bind (wpAny_mkText ?_)
 refine wpAny_bind (nB (Heap.get?_push_size _ rfl) fun h' ob e1 e2 hk=>?_)
 exact wpAny_raiseNew_none hh (hq _ _ _ _ e1 e2 fun b o e=>hk b o (Nat.ne_of_lt (by rw[Heap.size_push];exact Nat.lt_succ_of_lt (Heap.lt_size e))) (Heap.get?_push_of_some _ (Heap.get?_push_of_some _ e)))
theorem nC {tk:Tok} {R:Result->Shared->Prop} (hx:h.get? a=some {cls:=.type "list",data:=.seq xs n}) (hh:A.handled=none) (hq:∀x h' tk' ob,h'.get? x=some ob->ob.cls=.type "AttributeError"->(∀b o,h.get? b=some o->h'.get? b=some o)->R (.error (.ref x)) ⟨h',g,d,tk',os⟩) :
  codeAny (model prog w) A (.call (.builtin "list.__getattribute__") ⟨[.ref a,.str "keys" tk],[]⟩) R ⟨h,g,d,t,os⟩:=
 codeAny_call_builtin F.slot_list_getattribute.plain F.entry_list_ga (F.slot_list_getattribute.check _ _ _ _ _ _ _ _ (show (⟨h,g,d,t,os⟩:Shared).TypeIs (.ref a) "list" from ⟨_,hx,rfl⟩) (F.args_list_getattribute_2 _ _) (lf hx hh hq))
theorem rx {Q:Option Value->Shared->Prop} (hx:h.get? a=some {cls:=.type "list",data:=.seq xs n}) (hh:A.handled=none) (hq:∀h' tk',(∀b o,h.get? b=some o->h'.get? b=some o)->Q none ⟨h',g,d,tk',os⟩):wpAny (model prog w) A (getAttr? (.ref a) "keys") Q E ⟨h,g,d,t,os⟩:=by
 have hT:(⟨h,g,d,t,os⟩:Shared).TypeIs (.ref a) "list":=⟨_,hx,rfl⟩
 have f2:=F.slot_list_getattribute.lookup
 have f3:=F.slot_list_getattribute.bind (.ref a)
 have f5:=jH
 unfold getAttr? getAttrBy?
 repeat (any_goals (first | assumption | wp_step))
 refine nC hx hh fun x h' tk' ob e1 e2 hk=>?_
 have hT':(⟨h',g,d,tk',os⟩:Shared).TypeIs (.ref x) "AttributeError":=⟨_,e1,e2⟩
 have f1:isSubtype (.type "AttributeError") (.type "AttributeError")=pure true:=by rw[isSubtype_type];kernel_rfl
 have hq':=hq h' tk' hk
 repeat (any_goals (first | assumption | wp_step))
end
theorem hO:entryFor table "dict.update.loop"=some Builtin.«dict.update.loop»:=entryFor_of_tree (by kernel_rfl)
theorem cO:plainId "dict.update.loop"=true:=by decide +kernel
noncomputable def ft (h:Heap) (items:List Value) (kws:List (Str×Value)):Prop:=∀(i:Nat) k v,kws[i]?=some (k,v)->∃t tk,items[i]?=some (.ref t)/\h.IsTuple t #[.str k tk,v]
theorem nY {prog:Program} {w:World} {A:Around} {l I d:Addr} {items:List Value} {kws:List (Str×Value)} {R:Result->Shared->Prop} (hh:A.handled=none) (hIl:l≠I) (hdI:d≠I) (hdl:d≠l) (hn:(kws.map (·.1)).Nodup) (hlen:items.length=kws.length) (hz:kws.length<=1000) :
  ∀(k i:Nat) (s:Shared),items.length-i=k->i<=items.length->s.heap.IsListIter I l i->s.heap.IsList l items.toArray->ft s.heap items kws->s.heap.DictOf (PySem.strKind prog w) d (kws.take i)->
   (∀h' tk,h'.DictOf (PySem.strKind prog w) d kws->(∀b o,b≠d->b≠I->s.heap.get? b=some o->h'.get? b=some o)->R (.ok (.ret .none)) {s with heap:=h',toks:=tk})->
   codeAny (model prog w) A (.builtin "dict.update.loop" ⟨[.ref d,.ref I,rawInt (i:Nat),.none],[]⟩) R s:=by
 intro k
 induction k with
 |zero=>
  intro i s hk hi st hl hP hD hR
  have hin:i=items.length:=Nat.le_antisymm hi (Nat.le_of_sub_eq_zero hk)
  refine codeAny_builtin hO ?_
  rw[Around.under_plainId cO _]
  show wpAny _ A.in1 (pyNext (.ref I) >>=_) _ _ s
  refine wpAny_bind (wpAny_pyNext_list_end (by show A.handled=_;exact hh) st hl (by simp;exact Nat.le_of_eq hin.symm) fun h' hx=>?_)
  show wpAny _ A.in1 (do Builtin.Dict.addKeywords d [];ret Value.none) _ _ _
  refine wpAny_bind (wpAny_pure (wpAny_pure (hR h' s.toks ?_ fun b o _ hbI e=>hx b o hbI e)))
  rw[hin,hlen,List.take_length] at hD
  exact hD.at fun o e=>hx d o hdI e
 |succ k ih=>
  intro i s hk hi st hl hP hD hR
  have hlt:i < items.length:=Nat.lt_of_sub_pos (by rw[hk];exact Nat.succ_pos k)
  have hlt2:i < kws.length:=hlen▸hlt
  obtain ⟨t,tk,et,ht⟩:=hP i kws[i].1 kws[i].2 (List.getElem?_eq_getElem hlt2)
  refine codeAny_builtin hO ?_
  rw[Around.under_plainId cO _]
  show wpAny _ A.in1 (pyNext (.ref I) >>=_) _ _ s
  refine wpAny_bind (wpAny_pyNext_list_item st hl (x:=.ref t) (by simpa using et) fun h' st' hs'=>?_)
  have hl':h'.IsList l items.toArray:=hl.extBut hs'.extBut hIl
  have tI:∀{h:Heap} {t:Addr} {xs:Array Value} {i:Nat},h.IsTuple t xs->h.IsListIter I l i->t≠I:=by
   rintro h t xs i ⟨o,e,c,_⟩ ⟨o',e',c',_⟩ rfl
   rw[e] at e';cases Option.some.inj e';rw[c] at c';exact absurd c' (by decide)
  have tD:∀{h:Heap} {t:Addr} {xs:Array Value} {kvs:List (Str×Value)},h.IsTuple t xs->h.DictOf (PySem.strKind prog w) d kvs->t≠d:=by
   rintro h t xs kvs ⟨o,e,_,n,c⟩ ⟨o',es,ep,e',_,c',_⟩ rfl
   rw[e] at e';cases Option.some.inj e';rw[c] at c';cases c'
  have hP':ft h' items kws:=fun j k v e=>let ⟨t,tk,e1,e2⟩:=hP j k v e;⟨t,tk,e1,e2.extBut hs'.extBut (tI e2 st)⟩
  have hD':h'.DictOf (PySem.strKind prog w) d (kws.take i):=hD.at fun o e=>hs'.extBut d o hdI e
  obtain ⟨o,eo,ec,n,ed⟩:=ht.extBut hs'.extBut (tI ht st)
  have hT:({s with heap:=h'}:Shared).TypeIs (.ref t) "tuple":=⟨o,eo,ec⟩
  have hst:PySem.stored (kws.take i) kws[i].1 kws[i].2=kws.take (i+1):=by
   have:((kws.take i).any fun kv=>kv.1=kws[i].1)=false:=by
    rw[Bool.eq_false_iff]
    intro h
    refine x1_2 (List.any_eq_true.mp h) fun q hq e=>?_
    obtain ⟨j,hj,e2⟩:=List.mem_iff_getElem.mp hq
    rw[List.getElem_take] at e2
    have hj':j < i:=Nat.lt_of_lt_of_le (List.length_take▸hj) (Nat.min_le_left _ _)
    exact List.pairwise_iff_getElem.mp hn j i (by rw[List.length_map];exact Nat.lt_trans hj' hlt2) (by rw[List.length_map];exact hlt2) hj' (by rw[List.getElem_map,List.getElem_map,e2];exact of_decide_eq_true e)
   unfold PySem.stored
   rw[this,List.take_add_one,List.getElem?_eq_getElem hlt2];rfl
  refine wpAny_bind (wpAny_holding ?_)
  refine wpAny_bind (wpAny_tryCatch ?_)
  unfold Builtin.Dict.pairItems
  refine wpAny_bind (wpAny_typeOf hT ?_)
  rw[if_pos (by decide)]
  refine wpAny_bind (wpAny_seqItems eo ed (wpAny_pure ?_))
  refine wpAny_holding (wpAny_dictSet_pairs (k:=kws[i].1) (hsz:=by rw[sizeLine_eq,List.length_take];exact Nat.le_trans (Nat.le_trans (Nat.min_le_right _ _) hz) (by decide)) (l7 _ _) hD' fun h'' hd2 hs2=>?_)
  have st2:=st'.at fun o e=>hs2.extBut I o (Ne.symm hdI) e
  refine wpAny_pure ⟨plainId_quiet cO _,ih (i+1) _ ((Nat.sub_succ items.length i).trans (congrArg Nat.pred hk)) hlt st2 (hl'.extBut hs2.extBut (Ne.symm hdl)) (fun j k v e=>let ⟨t,tk,e1,e2⟩:=hP' j k v e;⟨t,tk,e1,e2.extBut hs2.extBut (tD e2 hD')⟩) (hst▸hd2) fun h3 tk a1 a2=>hR h3 tk a1 fun b o h1 h2 e=>a2 b o h1 h2 (hs2.extBut b o h1 (hs'.extBut b o h2 e))⟩
theorem lH {prog:Program} {w:World} {A:Around} {E:Value->Shared->Prop} {s:Shared} {l:Addr} {items:List Value} {n:Nat} {kws:List (Str×Value)} {Q:Value->Shared->Prop} (hh:A.handled=none) (hl:s.heap.get? l=some {cls:=.type "list",data:=.seq items.toArray n}) (hP:ft s.heap items kws) (hn:(kws.map (·.1)).Nodup) (hlen:items.length=kws.length) (hz:kws.length<=1000)
  (h:∀h' tk,h'.DictOf (PySem.strKind prog w) s.heap.objs.size kws->(∀b o,s.heap.get? b=some o->h'.get? b=some o)->Q (.ref s.heap.objs.size) {s with heap:=h',toks:=tk}) :
  wpAny (model prog w) A (call (.type "dict") [.ref l]) Q E s:=by
 refine callType_codes (Q₁:=fun obj s₁=>obj=.ref s.heap.objs.size/\s₁={s with heap:=s.heap.push {cls:=.type "dict",data:=.dict #[]}}) F.kt_called_dict (F.kt_typeCall_dict_1 _) F.entry_dict_init (kt_code_dict_new _ ⟨rfl,rfl⟩) ?_
 rintro obj s₁ ⟨rfl,rfl⟩
 have hnew:(s.heap.push {cls:=.type "dict",data:=.dict #[]}).DictOf (PySem.strKind prog w) s.heap.objs.size []:=Heap.DictOf.new s.heap
 have hl':(s.heap.push {cls:=.type "dict",data:=.dict #[]}).get? l=some {cls:=.type "list",data:=.seq items.toArray n}:=Heap.get?_push_of_some _ hl
 refine⟨hnew.typeIs,F.args_dict_init_2 _ _,?_⟩
 unfold Builtin.«dict.__init__»
 refine wpAny_bind ?_
 unfold Builtin.Dict.selfAndRest
 refine wpAny_bind (wpAny_notOrdered_dict hnew.typeIs ?_)
 show wpAny _ _ (pure (s.heap.objs.size,[Value.ref l])) _ _ _
 refine wpAny_pure ?_
 show wpAny _ _ (Builtin.Dict.updateFrom "dict.__init__" s.heap.objs.size (.ref l) [] .none) _ _ _
 unfold Builtin.Dict.updateFrom
 have hT:({s with heap:=s.heap.push {cls:=.type "dict",data:=.dict #[]}}:Shared).TypeIs (.ref l) "list":=⟨_,hl',rfl⟩
 refine wpAny_bind (wpAny_typeOf hT ?_)
 rw[if_pos (by decide)]
 refine wpAny_bind (rx hl' (by show A.handled=_;exact hh) fun h' tk' hk=>?_)
 have hl2:h'.IsList l items.toArray:=⟨_,hk _ _ hl',rfl,n,rfl⟩
 rw[if_pos (show (none:Option Value).isNone=true from rfl)]
 refine wpAny_bind (wpAny_rule ?_)
 refine wpAny_bind (wpAny_pyIter_list hl2 ?_)
 have hls:l < s.heap.objs.size:=Heap.lt_size hl
 have hsz:s.heap.objs.size < h'.objs.size:=let ⟨_,_,_,e,_⟩:=hnew;Heap.lt_size (hk _ _ e)
 refine wpAny_pure ⟨plainId_quiet cO _,nY (kws:=kws) (by show A.handled=_;exact hh) (Nat.ne_of_lt (Nat.lt_trans hls hsz)) (Nat.ne_of_lt hsz) (Nat.ne_of_gt hls) hn hlen hz items.length 0 _ (Nat.sub_zero _) (Nat.zero_le _) ⟨_,Heap.get?_push_size _ rfl,rfl,rfl⟩ (hl2.push _) (fun j k v e=>?_) ((hnew.at fun o e=>hk _ _ e).push _) fun h3 tk a1 a2=>⟨rfl,h h3 tk a1 fun b o e=>a2 b o (Nat.ne_of_lt (Heap.lt_size e)) (Nat.ne_of_lt (Nat.lt_trans (Heap.lt_size e) hsz)) (Heap.get?_push_of_some _ (hk b o (Heap.get?_push_of_some _ e)))⟩⟩
 obtain ⟨t,tk,e1,o,e2,e3⟩:=hP j k v e
 exact⟨t,tk,e1,o,Heap.get?_push_of_some _ (hk _ _ (Heap.get?_push_of_some _ e2)),e3⟩
section
variable {C:Cx} {p:Program} {sc:Scope} {k:Nat}
noncomputable def l6:aK:=fun vs σ Q=>onR vs fun a=>∃kvs:List (Str×V),σ a=some (.list (kvs.map fun q=>.tup [.str q.1,q.2]))/\(kvs.map (·.1)).Nodup/\kvs.length<=1000/\ld kvs σ Q
theorem pi {aS:Addr} {h:Heap} {kvs:List (Str×V)}:∀{ws:List Value},VRels aS h (kvs.map fun q=>.tup [.str q.1,q.2]) ws->∃kws,PRel aS h kvs kws/\ft h ws kws/\ws.length=kws.length:=by
 induction kvs with
 |nil=>intro ws r;rw[r.inv0];exact⟨[],trivial,fun i k v e=>(Option.some_ne_none _ e.symm).elim,rfl⟩
 |cons q kvs ih=>
  intro ws r
  obtain ⟨w,ws',rfl,h1,h2⟩:=r.invC
  refine x1_3 (ih h2) fun kws p1 p2 p3=>?_
  obtain ⟨a,us,rfl,ht,hs⟩:=h1.invTup
  obtain ⟨w1,w2,rfl,g1,g2⟩:=hs.inv2
  obtain ⟨t,rfl⟩:=g1.invStr
  refine⟨(q.1,w2)::kws,⟨rfl,g2,p1⟩,fun i k v e=>?_,by rw[List.length_cons,List.length_cons,p3]⟩
  cases i with
  |zero=>cases Option.some.inj e;exact⟨_,t,rfl,ht⟩
  |succ i=>exact p2 i k v e
theorem pE (hz:C.held=Option.none):OpN C k (fun ws=>PySem.call (.type "dict") ws) l6:=by
 intro A s σ vs ws Q P E ao R hv q hP
 obtain ⟨a,rfl,kvs,hx,hn,h1000,q⟩:=onR.elim q
 obtain ⟨wa,rfl,h1⟩:=hv.inv1
 obtain rfl:=h1.invRef
 obtain ⟨_,us,⟨n,h1⟩,h2⟩:=R.view _ _ hx
 refine x1_3 (pi h2) fun kws p1 p2 p3=>?_
 have hl:=p1.length
 refine av (lH (ao.none hz) h1 p2 (by rw[<-p1.keys];exact hn) p3 (by rw[<-hl];exact h1000) fun h' tk hd hk hsz=>?_)
 refine x1_1 hd.dictAt fun ep' hat=>?_
 have hn:=aH s.heap
 exact hP _ _ (am σ s.heap.objs.size (.dict kvs ep')) _ (.ref _) (R.add (tk:=tk) hk hn ⟨Nat.le_trans h1000 (by decide),kws,hat,p1.keep fun b o e _=>hk b o e⟩) (.add hk hsz (Nat.le_refl _)) (q _ ep' (R.freshNone hn))
theorem x9 (G:Gl C p) (hz:C.held=Option.none) {np pos:Pos} {es:List Expr} {L:LT} (hn:sc.names.lookup (Str.ofString "dict")=some .globalImplicit) (hl:HL C sc k es L) (hp:ah es=true):HE C sc k (.Call (.Name (Str.ofString "dict") np) es [] pos) (bv (to iv l6) L):=
 d5 G.ok (.or (pF G.ok) (pE hz)) hn (G.free _ (by decide)) (G.blt mS (by decide)) rfl hl hp
end
section
variable {C:Cx} {sc:Scope} {k:Nat} {p:Program}
@[reducible] noncomputable def vF (T:gJ):vz:=fun m σ Q X=>T m σ (fun v σ'=>isB v fun b=>Q (!b) σ') X
theorem yb {e:Expr} {pos:Pos} {T:gJ} (he:HEX C sc k e T) (hi:∀env whole,isTrue e env whole=(do let v <-whole;standAt e.pos;holding [v] (truthy v))):HBX C sc k (.UnaryOp .Not e pos) (vF T):=by
 refine⟨?_⟩;intro env A s m σ Q X P E en ao R F W q hP hX
 refine wpAny_isTrue_Not (wpAny_isTrue_value (he.run env A s m σ _ X _ E en ao R F W q (fun v w σ' s' hv R' S' q'=>?_) hX) (hi env _))
 replace q':=q'.elim
 obtain ⟨b,rfl,q'⟩:=q'
 obtain rfl:=hv.invBool
 exact wpAny_truthy_bool (hP (!b) σ' s' R' S' q')
variable {bk N:Addr} {mN:Str->Option Value}
@[reducible] noncomputable def vG (f:String) (spec:aK) (T:ET) (U:gJ) (V':ET):gJ:=fun m σ Q X=>T m σ fun v σ₁=>lk f v σ₁/\U m σ₁ (fun u σ₂=>V' m σ₂ fun w σ₃=>spec [v,u,w] σ₃ Q) X
theorem uO (O:C.Ok) (B:Bk C bk N mN) {f:String} {o e1 e2:Expr} {apos pos:Pos} {spec:aK} {To T2:ET} {U:gJ} {j:Nat} {y:Option Value} (hf:MtAt C mN j f spec) (hj:j < k) (hB:typeLookup (.type "object") (Str.ofString f)=pure y) (ho:HE C sc k o To) (h1:HEX C sc k e1 U) (h2:HE C sc k e2 T2) (hs1:cg e1=true) (hs2:cg e2=true)
  (hbase:∀env,attributeBase o (Str.ofString f) env (eval o env)=eval o env) (hline:(apos.endLine == pos.line)=true):HEX C sc k (.Call (.Attribute o (Str.ofString f) apos) [e1,e2] [] pos) (vG f spec To U T2):=by
 obtain ⟨fa,of,fd,hmf,hof,hfc,hfd,hS⟩:=hf
 have hp:ah [e1,e2]=true:=by simp[ah,hs1,hs2]
 refine⟨?_⟩;intro env A s m σ Q X P E en ao R F W q hP hX
 rw[arm_eval_Call,hbase]
 refine wpAny_bind (ho.run env A s m σ _ _ E en ao R F q fun v w σ₁ s₁ hv R₁ S₁ q₁=>?_)
 obtain ⟨⟨a,dx,fs,rfl,ha,hd,hl0⟩,q₁⟩:=q₁
 have hv':=hv
 obtain rfl:=hv'.invRef
 refine wpAny_bind (wpAny_standAt ?_)
 have hpos:methodCallPos true o env apos pos=pure pos:=by unfold methodCallPos;simp[hline]
 unfold methodCall
 rw[gG hp (by show 2 < 30;decide)]
 refine wpAny_bind (wpAny_holding ?_)
 show wpAny _ A (getMethod (.ref a) (Str.ofString f) _) _ E s₁
 refine f8 B R₁ hmf hof hfc hB ha hd hl0 ?_
 refine wpAny_bind (wpAny_of_eq hpos ?_)
 show wpAny _ A (callWith pos (.ref fa) [.ref a] (backTo pos (starEach [e1,e2] env)) []) P E s₁
 refine Calls.callWith_function (o:=of) (fd:=fd) (au hp ?_)
 rw[aM hs1]
 show wpAny _ A (spliced ((false,eval e1 env)::backTo pos (starEach [e2] env))) _ E s₁
 refine Calls.spliced_cons (h1.run env A s₁ m σ₁ _ X _ E en ao R₁ (F.step R S₁) (W.step S₁.own) q₁ (fun u wu σ₂ s₂ hu R₂ S₂ q₂=>?_) fun c e σ' s' fl R' S' x=>hX c e σ' s' (fl.less S₁.size) R' (S₁.trans S') x)
 rw[aM hs2]
 show wpAny _ A (spliced ((false,eval e2 env)::backTo pos (starEach [] env))) _ E s₂
 refine Calls.spliced_cons (h2.run env A s₂ m σ₂ _ _ E en ao R₂ ((F.step R S₁).step R₁ S₂) q₂ fun u2 wu2 σ₃ s₃ hu2 R₃ S₃ q₃=>?_)
 refine Calls.spliced_nil ⟨⟨R₃.base _ _ hof,hfd⟩,?_⟩
 exact wpAny_call (hS A s₃ σ₃ [.ref a,u,u2] [.ref a,wu,wu2] Q P E (ao.le hj) R₃ (.cons (.ref a) (.cons (hu.keep (S₃.tupsN R₂)) (.cons hu2 .nil))) q₃ fun v w σ' s' hv' R' S' q'=>hP v w σ' s' hv' R' (((S₁.trans S₂).trans S₃).trans S') q')
end
section
variable {C:Cx} {sc:Scope} {k:Nat}
theorem y8 (fv:List String) {elt iter target:Expr} {ifs:List Expr} {cs:Scope} {pos:Pos} {g:Tgt} {I:IT} {B:BT} {T:ET} (ht:HT C (bO sc cs) k true target g) (ok:iU sc cs fv g.names=true) (hi:HI C sc k iter I) (hB:HTs C (bO sc cs) k ifs B) (hT:HE C (bO sc cs) k elt T)
  (hf:∀env x,foldedSetIterable iter env x=pure x):HE C sc k (.ListComp elt [⟨target,iter,ifs,0⟩] cs pos) (jV fv g I B T):=r7 (CompOk.of ok) hi ht hB hT hf
theorem sZ (fv:List String) {elt iter target:Expr} {ifs:List Expr} {cs:Scope} {pos p spos:Pos} {x:String} {g:Tgt} {I:IT} {B:BT} {T:ET} (ht:HT C (bO sc cs) k true target g) (ok:iU sc cs fv g.names=true) (hi:HI C sc k iter I) (hB:HTs C (bO sc cs) k ifs B) (hT:HE C (bO sc cs) k elt T)
  (hf:∀env x,foldedSetIterable iter env x=pure x) (hx:sc.names.lookup (Str.ofString x)=some .local) (hsw:∀env,EnvOk env sc->swapsWith (.ListComp elt [⟨target,iter,ifs,0⟩] cs pos) (some (.Name (Str.ofString x) p)) spos.line env=pure true) :
  HS1 C sc k (.Assign [.Name (Str.ofString x) p] (.ListComp elt [⟨target,iter,ifs,0⟩] cs pos) spos) (kQ x (jV fv g I B T)):=ki (CompOk.of ok) hi ht hB hT hf hx hsw
theorem yd {l r z:Expr} {pos:Pos} {T U W:ET} (hl:HE C sc k l T) (hr:HE C sc k r U) (hz:HE C sc k z W) (hm:behindInMarks .LtE z=false):HB C sc k (.Compare l [.LtE,.LtE] [r,z] pos) (lU rj rj T U W):=mT pC pC hl hr hz hm
theorem yc {l r z:Expr} {pos:Pos} {T U W:ET} (hl:HE C sc k l T) (hr:HE C sc k r U) (hz:HE C sc k z W) (hm:behindInMarks .Lt z=false):HB C sc k (.Compare l [.LtE,.Lt] [r,z] pos) (lU rj wr T U W):=mT pC wz hl hr hz hm
theorem yY {p:Program} (G:Gl C p) (hz:C.held=Option.none) {np pos:Pos} {es:List Expr} {L:LT} (hn:sc.names.lookup (Str.ofString "max")=some .globalImplicit) (hl:HL C sc k es L) (hp:ah es=true):HE C sc k (.Call (.Name (Str.ofString "max") np) es [] pos) (bv (to sw kM) L):=
 HE.builtin G.ok (.or (tQ hz) (rr hz)) hn (G.free _ (by decide)) (G.blt uH (by decide)) rfl hl hp
theorem HSX.nil:HSX C sc k [] (xP iy):=HSX.plain HS.nil
theorem xY {p:Program} (G:Gl C p) (hz:C.held=none) {np pos:Pos} {a b c:Expr} {L:LT} (hn:sc.names.lookup (Str.ofString "range")=some .globalImplicit) (hl:HL C sc k [a,b,c] L) (hp:ah [a,b,c]=true):HI C sc k (.Call (.Name (Str.ofString "range") np) [a,b,c] [] pos) (qd L):=r4 G hz hn hl hp
theorem Bk.look_t {bk N:Addr} {mN:Str->Option Value} (B:Bk C bk N mN):mN (Str.ofString "trees")=Option.none:=B.look "trees" (by decide)
theorem Bk.look_m {bk N:Addr} {mN:Str->Option Value} (B:Bk C bk N mN):mN (Str.ofString "made_of")=Option.none:=B.look "made_of" (by decide)
theorem yS {p:Program} (G:Gl C p) {x y:String} {p1 p2 pos:Pos} {n:Nat} (hx:sc.names.lookup (Str.ofString x)=some .local) (hy:sc.names.lookup (Str.ofString y)=some .local):HT C sc k true (.Tuple [.Name (Str.ofString x) p1,.Name (Str.ofString y) p2] n pos) (.tup [x,y]):=
 HT.tup G.ok (l:=[(x,p1),(y,p2)]) fun z hz=>by
  rcases List.mem_cons.mp hz with rfl | hz
  ·exact hx
  ·rcases List.mem_cons.mp hz with rfl | hz
   ·exact hy
   ·cases hz
end
section
variable {F:List Value->Value->Value->Value->Prop} {H:List Value->Prop}
theorem Bh (h:∀a p c d,F [a] p c d):∀ws p c d,ws.length=1->F ws p c d:=fun ws p c d e=>by obtain ⟨a,rfl⟩:=ue e;exact h a p c d
theorem Bg (h:∀a b p c d,F [a,b] p c d):∀ws p c d,ws.length=2->F ws p c d:=fun ws p c d e=>by obtain ⟨a,b,rfl⟩:=ud e;exact h a b p c d
theorem Bf (h:∀a b a3 p c d,F [a,b,a3] p c d):∀ws p c d,ws.length=3->F ws p c d:=fun ws p c d e=>by obtain ⟨a,b,a3,rfl⟩:=uc e;exact h a b a3 p c d
theorem Bd (h:∀a b a3 a4 p c d,F [a,b,a3,a4] p c d):∀ws p c d,ws.length=4->F ws p c d:=fun ws p c d e=>by obtain ⟨a,b,a3,a4,rfl⟩:=ub e;exact h a b a3 a4 p c d
theorem Bc (h:∀a b a3 a4 a5 p c d,F [a,b,a3,a4,a5] p c d):∀ws p c d,ws.length=5->F ws p c d:=fun ws p c d e=>by obtain ⟨a,b,a3,a4,a5,rfl⟩:=zL e;exact h a b a3 a4 a5 p c d
theorem Bb (h:∀a,H [a]):∀ws,ws.length=1->H ws:=fun ws e=>by obtain ⟨a,rfl⟩:=ue e;exact h a
theorem Ba (h:∀a b,H [a,b]):∀ws,ws.length=2->H ws:=fun ws e=>by obtain ⟨a,b,rfl⟩:=ud e;exact h a b
theorem A9 (h:∀a b c,H [a,b,c]):∀ws,ws.length=3->H ws:=fun ws e=>by obtain ⟨a,b,c,rfl⟩:=uc e;exact h a b c
theorem A8 (h:∀a b c d,H [a,b,c,d]):∀ws,ws.length=4->H ws:=fun ws e=>by obtain ⟨a,b,c,d,rfl⟩:=ub e;exact h a b c d
end
section
variable {ns:List Int} {σ:ae} {Q:V->ae->Prop}
theorem q8 {x:String} {v:V} {U:ST} {m:aq} {R:Fl->aq->ae->Prop} (h:U (put m x v) σ R):gM (kQ x (br v)) U m σ R:=h
theorem ix {T U:ST} {m:aq} {R:Fl->aq->ae->Prop} (P:aq->ae->Prop) (h1:∀R':Fl->aq->ae->Prop,(∀m' σ',P m' σ'->R' .next m' σ')->T m σ R') (h2:∀m' σ',P m' σ'->U m' σ' R):gM T U m σ R:=h1 _ h2
theorem bT {x:String} {v:V} {T U:ST} {m:aq} {R:Fl->aq->ae->Prop} (P:aq->ae->Prop) (h1:∀R':Fl->aq->ae->Prop,(∀m' σ',P m' σ'->R' .next m' σ')->T (put m x v) σ R') (h2:∀m' σ',P m' σ'->U m' σ' R):o9 x m (kS (gM T U) R) v σ:=h1 _ h2
theorem tp {x:String} {v:V} {U:ST} {m:aq} {R:Fl->aq->ae->Prop} (h:U (put m x v) σ R):o9 x m (kS U R) v σ:=h
theorem fe {x:String} {v:V} {U:bX} {m:aq} {R:Fl->aq->ae->Prop} {X:XT} (h:U (put m x v) σ R X):o9 x m (kX U R X) v σ:=h
theorem wN {U:bX} {m:aq} {R:Fl->aq->ae->Prop} {X:XT} (h:U m σ R X):kX U R X .next m σ:=h
theorem aI {c:Bool} {P R:Prop} (h:c=true) (p:P):if c=true then P else R:=by rw[if_pos h];exact p
theorem aE {c:Bool} {P R:Prop} (h:c=false) (p:R):if c=true then P else R:=by rw[if_neg (by rw[h];decide)];exact p
theorem l1 {a:V}:[a].length<=1000:=Nat.le_of_ble_eq_true rfl
theorem l2 {a b:V}:[a,b].length<=1000:=Nat.le_of_ble_eq_true rfl
theorem l3 {a b c:V}:[a,b,c].length<=1000:=Nat.le_of_ble_eq_true rfl
theorem i6 {a:Addr} {xs:List V} {R:List V->(ae->Prop)->ae->Prop} (h:σ a=some (.list xs)) (q:R xs (fun σ=>σ a=some (.list xs)) σ):dq ns (.ref a) σ R:=by rw[nN h];exact q
theorem om {a:Addr} {kvs:List (Str×V)} {ep:Nat} {R:List V->(ae->Prop)->ae->Prop} (h:σ a=some (.dict kvs ep)) (q:R (kvs.map fun q=>.str q.1) (fun σ=>σ a=some (.dict kvs ep)) σ):dq ns (.ref a) σ R:=by rw[nO h];exact q
theorem rc {n:Int} {R:List V->(ae->Prop)->ae->Prop} (h:0<=n/\n < 2 ^ 62) (q:R (aF 0 n.toNat) (fun _=>True) σ):cN [.int n] σ R:=⟨⟨Int.le_trans (by decide) h.1,h.2⟩,q⟩
theorem AA {a b:Int} {R:List V->(ae->Prop)->ae->Prop} (h:0<=a/\a < 2 ^ 62/\0<=b/\b < 2 ^ 62) (q:R (aF a (b-a).toNat) (fun _=>True) σ):cN [.int a,.int b] σ R:=⟨⟨Int.le_trans (by decide) h.1,h.2.1,Int.le_trans (by decide) h.2.2.1,h.2.2.2⟩,q⟩
theorem gO {a:Addr} {xs:List V} (h:σ a=some (.list xs)) (q:Q (.int xs.length) σ):eT ns [.ref a] σ Q:=by rw[pT h];exact q
theorem aZ {a b:V} {r:Bool} (h:veq0 a b=some r) (q:Q (.bool r) σ):ni a b σ Q:=⟨r,.inl h,q⟩
theorem pL {a b:V} {r:Bool} (h:veq0 a b=some r) (q:Q (.bool (!r)) σ):po a b σ Q:=.inl (atK.of h q)
theorem wD {x y:Str} (q:Q (.bool (!Txt.contains x y)) σ):my (.str y) (.str x) σ Q:=.inl q
theorem rI {a:Addr} {kvs:List (Str×V)} {ep:Nat} {x:Str} (h:σ a=some (.dict kvs ep)) (q:Q (.bool (aT kvs x).isSome) σ):pz (.str x) (.ref a) σ Q:=.inr (.inl (rH h q))
theorem zQ {a:Addr} {kvs:List (Int×V)} {ep:Nat} {x:Int} (h:σ a=some (.idict kvs ep)) (q:Q (.bool (jP kvs x).isSome) σ):pz (.int x) (.ref a) σ Q:=.inr (.inr (qc h q))
theorem zP {a:Addr} {x:V} {xs:List V} {r:Bool} (h:σ a=some (.list xs)) (e:bW x xs=some r) (q:Q (.bool r) σ):pz x (.ref a) σ Q:=.inl ⟨xs,r,h,e,q⟩
theorem jB {a:Addr} {kvs:List (Str×V)} {ep:Nat} {x:Str} (h:σ a=some (.dict kvs ep)) (q:Q (.bool (!(aT kvs x).isSome)) σ):my (.str x) (.ref a) σ Q:=.inr (.inr (kY h q))
theorem wE {a:Addr} {x:V} {xs:List V} {r:Bool} (h:σ a=some (.list xs)) (e:bW x xs=some r) (q:Q (.bool (!r)) σ):my x (.ref a) σ Q:=.inr (.inl ⟨xs,r,h,e,q⟩)
theorem qa {a:Addr} {kvs:List (Str×V)} {ep:Nat} {x:Str} {v:V} (h:σ a=some (.dict kvs ep)) (hv:aT kvs x=some v) (q:Q v σ):bl ns (.ref a) (.str x) σ Q:=.inr (nQ h hv q)
theorem ch {a:Addr} {xs:List V} {i:Int} {v:V} (h:σ a=some (.list xs)) (h0:0<=i) (hv:xs[i.toNat]?=some v) (q:Q v σ):bl ns (.ref a) (.int i) σ Q:=.inl (nP h h0 hv q)
theorem jK {vs:List V} {i:Nat} {v:V} (hz:vs.length < 16777217) (hi:i < vs.length) (hv:vs[i]?=some v) (q:Q v σ):bl ns (.tup vs) (.int i) σ Q:=.inl ⟨hz,i,v,by unfold iM;rw[if_pos (Int.natCast_nonneg _),if_pos (Int.ofNat_lt.mpr hi)];rfl,hv,q⟩
theorem cY {a:Addr} {kvs:List (Str×V)} {ep:Nat} {x:Str} {v:V} {R:ae->Prop} (h:σ a=some (.dict kvs ep)) (hz:kvs.length < 16777216) (q:∀ep',R (am σ a (.dict (aR kvs x v) ep'))):dg (.ref a) (.str x) v σ R:=.inl (o6 h hz q)
theorem v4 {a:Addr} {xs:List V} {i:Int} {v:V} {R:ae->Prop} (h:σ a=some (.list xs)) (h0:0<=i) (hi:i.toNat < xs.length) (q:R (am σ a (.list (xs.set i.toNat v)))):dg (.ref a) (.int i) v σ R:=.inr (.inl (m7 h h0 hi q))
theorem v5 {a:Addr} {kvs:List (Int×V)} {ep:Nat} {x:Int} {v:V} {R:ae->Prop} (h:σ a=some (.idict kvs ep)) (hz:kvs.length < 16777216) (q:∀ep',R (am σ a (.idict (bd kvs x v) ep'))):dg (.ref a) (.int x) v σ R:=.inr (.inr (m8 h hz q))
end
set_option tactic.hygienic true
set_option maxHeartbeats 0
namespace Hd
noncomputable section
theorem topGo_q:topGo=PySem.W.Fast.tw15667345088766844465:=PySem.W.Fast.te15667345088766844465
theorem segRun_q:segRun=PySem.W.Fast.tw14374325043358763698:=PySem.W.Fast.te14374325043358763698
theorem segRunT_q:segRunT=PySem.W.Fast.tw10110043849684766642:=PySem.W.Fast.te10110043849684766642
theorem topRun_q:topRun=PySem.W.Fast.tw14082659384304107361:=PySem.W.Fast.te14082659384304107361
theorem table_q:treeTable=PySem.W.Fast.tw14364793385576792824:=PySem.W.Fast.te14364793385576792824
theorem denote_q:denote=PySem.W.Fast.tw11892475500146522536:=PySem.W.Fast.te11892475500146522536
noncomputable def fA (l:List Stmt) (n:Nat):Arguments:=match l[n]? with | some (.FunctionDef _ a _ _ _ _ _ _ _ _)=>a | _=>default
noncomputable def fB (l:List Stmt) (n:Nat):List Stmt:=match l[n]? with | some (.FunctionDef _ _ b _ _ _ _ _ _ _)=>b | _=>[]
noncomputable def fS (l:List Stmt) (n:Nat):Scope:=match l[n]? with | some (.FunctionDef _ _ _ _ _ _ s _ _ _)=>s | _=>default
noncomputable def cB (l:List Stmt) (n:Nat):List Stmt:=match l[n]? with | some (.ClassDef _ _ _ b ..)=>b | _=>[]
noncomputable def cS (l:List Stmt) (n:Nat):Scope:=match l[n]? with | some (.ClassDef _ _ _ _ _ _ s ..)=>s | _=>default
abbrev n:Value:=.none
abbrev r (k:Nat):Value:=.ref k
abbrev s (x:Str) (k:Nat):Value:=.str x k
abbrev i (k m:Nat):Value:=.int (Int.ofNat k) m
abbrev z (k:Nat):Value:=.int (Int.ofNat k) 0
abbrev t (x:String):Value:=.type x
abbrev u (x:String):Value:=.builtin x
abbrev ps (a b c d:Nat):Pos:=Pos.mk a b c d
noncomputable def e (P:Params) (x:String) (k:Nat) (v:Value):DictEntry:=.mk (PyData.keyHash P x) (.str (Str.ofString x) k) v
noncomputable def O (x:String) (l:List Value):Obj:=.mk (.type x) none (.fields l.toArray) #[]
noncomputable def T (l:List Value):Obj:=.mk (.type "tuple") none (.seq l.toArray 0) #[]
noncomputable def E (l:List Value):Obj:=.mk .none none (.fields l.toArray) #[]
noncomputable def D (l:List DictEntry) (k:Nat):Obj:=.mk (.type "dict") none (.dict l.toArray k) #[]
noncomputable def K (x y:Str) (k l a f b:Nat) (g:Bool) (v0 v1 v2 v3:Value) (m:Nat):Obj:=O "code" [s x k,s y (k+1),s "/claim/cut.py" (k+2),z l,z a,z 0,z 0,z f,r b,.bool g,z 181,r (b+1),v0,v1,v2,v3,z m,z l,s "/claim/cut.py" (m+1)]
noncomputable def G (x y:Str) (l:List Stmt) (k:Nat):Obj:=.mk .none none (.func (.mk x y (fA l k) (.stmts (fB l k)) (fS l k) 0 [] n n n n none n n 0)) #[]
noncomputable def F (x y:Str) (l:List Stmt) (k g:Nat) (v c:Value):Obj:=.mk (.type "function") none (.func (.mk x y (fA l k) (.stmts (fB l k)) (fS l k) g [] n n n v none c n 0)) #[]
noncomputable def M (a b c:Nat) (v:Value):Obj:=.mk (.type "frame") none .plain #[some (r a),some (r b),some (r c),none,some v,none,some (r 0)]
noncomputable def lfe:Life:=(@Life.mk [] [] [] 0 [] [] false (@List.toArray @Nat []) [] 0 false false false (0:Int) [(2000:Int),(10:Int),(10:Int)] false 0 true [] [] 0 false)
noncomputable def dw:Drawn:=Drawn.mk 0 0 0 0
noncomputable def ev (l:List Obj):List Obj×List Obj:=List.rec ([],[]) (fun x _ ih=>(x::ih.2,ih.1)) l
noncomputable def bt (f:Nat):List Obj->PySem.W.BT:=Nat.rec (fun _=>.nil) (fun _ ih l=>List.rec .nil (fun x t _=>.node x (ih (ev t).1) (ih (ev t).2)) l) f
abbrev pw:Program:=PySem.Challenge.pw_uf050007_11
abbrev TB:List Stmt:=pw.main.body
noncomputable def vw:Program:=view pw [0,2,3,4,5,6,7,8,9,11,12,13,14,15,16,17,19,20,21,22,23,24,26,27,29,31,32,33,34,35,36,37,38,39,40,41,42,43,44,45,46]
noncomputable def env:Env:={scope:=pw.main.scope,locals:=mainNs,globals:=mainNs,cells:=[],code:=(.ref 13),frame:=some 14}
noncomputable def ann:Option Value:=(some (.ref 6))
abbrev cE:Code:=.body (behindTheImports pw) env
noncomputable def qq:Pos:=(ps 0 0 0 0)
abbrev BB:List Frame:=[topFrame qq]
abbrev s0 (w:World) (os:OsState):Shared:=Shared.mk (boot_heap w.params) (@Array.mk GenState []) boot_drawn boot_toks os
noncomputable def eo3 (P:Params):List DictEntry:=[(e P "__name__" 165 (s "law_uf050007_11" 583)),(e P "__doc__" 166 n),(e P "__package__" 167 n),(e P "__loader__" 168 (u "__main__.__loader__#opaque")),(e P "__spec__" 169 n),(e P "__annotations__" 170 (r 6)),(e P "__builtins__" 171 (r 4)),(e P "__file__" 173 (s "/claim/cut.py" 172)),(e P "__cached__" 174 n),(e P "_wall" 193 (r 21)),(e P "RoadError" 213 (r 31)),(e P "NoPath" 229 (r 44)),(e P "NoFile" 245 (r 56)),(e P "InTheWay" 261 (r 68)),(e P "NoClash" 277 (r 80)),(e P "Clashed" 293 (r 92)),(e P "NoVersion" 309 (r 104)),(e P "SameVersion" 325 (r 116)),(e P "SIGNS" 329 (s "abcdefghijklmnopqrstuvwxyzABCDEFGHIJKLMNOPQRSTUVWXYZ0123456789.-_" 328)),(e P "MOST_PARTS" 331 (i 8 330)),(e P "LONGEST_PART" 333 (i 12 332)),(e P "is_part" 341 (r 125)),(e P "is_path" 350 (r 132)),(e P "above" 356 (r 137)),(e P "is_beneath" 364 (r 144)),(e P "all_paths" 378 (r 151)),(e P "marks" 392 (r 158)),(e P "clashing" 398 (r 163)),(e P "standing" 411 (r 170)),(e P "clashes" 417 (r 175)),(e P "joined" 432 (r 182)),(e P "done" 445 (r 189)),(e P "changed" 455 (r 196)),(e P "Book" 582 (r 288)),(e P "_law_sign_by" 591 (r 299)),(e P "_law_name_by" 597 (r 304)),(e P "_law_path_by" 603 (r 309)),(e P "_law_line_by" 609 (r 314)),(e P "_law_is_free" 618 (r 321)),(e P "_law_word_of" 628 (r 328)),(e P "_law_deeds_by" 644 (r 335)),(e P "_law_joined_by" 650 (r 340)),(e P "_law_nearest_by" 656 (r 345)),(e P "_law_grew" 667 (r 352)),(e P "_law_joined" 679 (r 359)),(e P "_law_grows" 695 (r 366)),(e P "_law_joins" 716 (r 373)),(e P "_law_turn" 728 (r 380)),(e P "_law_reads" 739 (r 387)),(e P "law" 745 (r 392))]
noncomputable def o3_0 (P:Params):Obj:=D ((e P "__name__" 165 (s "threeroad.errors" 194))::((eo3 P).drop 1).take 11) 12
noncomputable def o3_1 (P:Params):Obj:=D ((e P "__name__" 165 (s "threeroad.errors" 194))::((eo3 P).drop 1).take 13) 14
noncomputable def o3_2 (P:Params):Obj:=D ((e P "__name__" 165 (s "threeroad.errors" 194))::((eo3 P).drop 1).take 15) 16
noncomputable def o3_3 (P:Params):Obj:=D ((e P "__name__" 165 (s "threeroad.paths" 326))::((eo3 P).drop 1).take 18) 19
noncomputable def o3_4 (P:Params):Obj:=D ((e P "__name__" 165 (s "threeroad.book" 456))::((eo3 P).drop 1).take 32) 33
noncomputable def o3_5 (P:Params):Obj:=D ((e P "__name__" 165 (s "threeroad.book" 456))::((eo3 P).drop 1).take 33) 34
noncomputable def o3_6 (P:Params):Obj:=D ((eo3 P).take 47) 47
noncomputable def o3_7 (P:Params):Obj:=D (eo3 P) 50
noncomputable def eo12:List Value:=[(z 1),(z 0),(r 20),(z 5),(z 0),(r 27),(z 7),(z 0),(r 40),(z 9),(z 0),(r 52),(z 11),(z 0),(r 64),(z 13),(z 0),(r 76),(z 15),(z 0),(r 88),(z 17),(z 0),(r 100),(z 19),(z 0),(r 112),(z 25),(z 0),(r 124),(z 32),(z 0),(r 131),(z 40),(z 0),(r 136),(z 43),(z 0),(r 143),(z 46),(z 0),(r 150),(z 52),(z 0),(r 157),(z 68),(z 0),(r 162),(z 70),(z 0),(r 169),(z 80),(z 0),(r 174),(z 88),(z 0),(r 181),(z 111),(z 0),(r 188),(z 126),(z 0),(r 195),(z 132),(z 0),(r 202),(z 190),(z 0),(r 298),(z 192),(z 0),(r 303),(z 206),(z 0),(r 308),(z 216),(z 0),(r 313),(z 225),(z 0),(r 320),(z 230),(z 0),(r 327),(z 244),(z 0),(r 334),(z 264),(z 0),(r 339),(z 282),(z 0),(r 344),(z 291),(z 0),(r 351),(z 297),(z 0),(r 358),(z 303),(z 0),(r 365),(z 317),(z 0),(r 372),(z 345),(z 0),(r 379),(z 351),(z 0),(r 386),(z 357),(z 0),(r 391)]
noncomputable def o12_0 (P:Params):Obj:=E (eo12.take 0)
noncomputable def o12_1 (P:Params):Obj:=E (eo12.take 9)
noncomputable def o12_2 (P:Params):Obj:=E (eo12.take 15)
noncomputable def o12_3 (P:Params):Obj:=E (eo12.take 21)
noncomputable def o12_4 (P:Params):Obj:=E (eo12.take 27)
noncomputable def o12_5 (P:Params):Obj:=E (eo12.take 63)
noncomputable def o12_6 (P:Params):Obj:=E (eo12.take 66)
noncomputable def o12_7 (P:Params):Obj:=E (eo12.take 105)
noncomputable def o12_8 (P:Params):Obj:=E (eo12.take 114)
noncomputable def o31_0 (P:Params):Obj:=(.mk (t "type") none (.cls (.mk "RoadError" [(t "ValueError")] [(r 31),(t "ValueError"),(t "Exception"),(t "BaseException"),(t "object")] 30 "RoadError" true [] [(r 44)] false none false)) (List.toArray [(some (r 22)),none,(some (s "RoadError" 196)),(some (s "RoadError" 204)),(some (u "ValueError.__new__")),(some (.bool true))]))
noncomputable def o31_1 (P:Params):Obj:=(.mk (t "type") none (.cls (.mk "RoadError" [(t "ValueError")] [(r 31),(t "ValueError"),(t "Exception"),(t "BaseException"),(t "object")] 30 "RoadError" true [] [(r 44),(r 56),(r 68)] false none false)) (List.toArray [(some (r 22)),none,(some (s "RoadError" 196)),(some (s "RoadError" 204)),(some (u "ValueError.__new__")),(some (.bool true))]))
noncomputable def o31_2 (P:Params):Obj:=(.mk (t "type") none (.cls (.mk "RoadError" [(t "ValueError")] [(r 31),(t "ValueError"),(t "Exception"),(t "BaseException"),(t "object")] 30 "RoadError" true [] [(r 44),(r 56),(r 68),(r 80),(r 92)] false none false)) (List.toArray [(some (r 22)),none,(some (s "RoadError" 196)),(some (s "RoadError" 204)),(some (u "ValueError.__new__")),(some (.bool true))]))
noncomputable def o31_3 (P:Params):Obj:=(.mk (t "type") none (.cls (.mk "RoadError" [(t "ValueError")] [(r 31),(t "ValueError"),(t "Exception"),(t "BaseException"),(t "object")] 30 "RoadError" true [] [(r 44),(r 56),(r 68),(r 80),(r 92),(r 104),(r 116)] false none false)) (List.toArray [(some (r 22)),none,(some (s "RoadError" 196)),(some (s "RoadError" 204)),(some (u "ValueError.__new__")),(some (.bool true))]))
noncomputable def lz (P:Params):List Obj:=[boot_o_0 P,boot_o_1 P,boot_o_2 P,o3_7 P,boot_o_4 P,boot_o_5 P,boot_o_6 P,boot_o_7 P,boot_o_8 P,boot_o_9 P,boot_o_10 P,T [],o12_8 P,K "<module>" "<module>" 182 1 0 0 11 false n n n n 185,M 13 3 3 (s "__main__" 164),T [],E [],T [(s "k" 190)],T [],G "_wall" "_wall" TB 0,K "_wall" "_wall" 187 1 1 3 15 true n (r 17) (r 18) (r 19) 191,F "_wall" "_wall" TB 0 3 (s "__main__" 164) (r 20),T [(t "ValueError")],O "builtin_function_or_method" [(u "type.__prepare__"),(t "type")],D [(e P "__module__" 203 (s "threeroad.errors" 194)),(e P "__qualname__" 205 (s "RoadError" 204)),(e P "__firstlineno__" 207 (i 5 206)),(e P "__static_attributes__" 208 (r 29))] 4,T [],E [],K "RoadError" "RoadError" 198 5 0 0 25 false n n n n 201,M 27 3 24 (s "threeroad.errors" 194),T [],D [(e P "__module__" 203 (s "threeroad.errors" 194)),(e P "__firstlineno__" 207 (i 5 206)),(e P "__static_attributes__" 208 (r 29)),(e P "__weakref__" 210 (r 32)),(e P "__doc__" 211 n)] 3,o31_3 P,O "getset_descriptor" [(s "__weakref__" 209),(r 31),(u "ExceptionGroup.__weakref__"),n],O "super" [(r 31),(r 31),(r 31)],O "builtin_function_or_method" [(u "object.__init_subclass__"),(r 31)],T [(r 31)],O "builtin_function_or_method" [(u "type.__prepare__"),(t "type")],D [(e P "__module__" 221 (s "threeroad.errors" 194)),(e P "__qualname__" 223 (s "NoPath" 222)),(e P "__firstlineno__" 225 (i 7 224)),(e P "__static_attributes__" 226 (r 42))] 4,T [],E [],K "NoPath" "NoPath" 216 7 0 0 38 false n n n n 219,M 40 3 37 (s "threeroad.errors" 194),T [],D [(e P "__module__" 221 (s "threeroad.errors" 194)),(e P "__firstlineno__" 225 (i 7 224)),(e P "__static_attributes__" 226 (r 42)),(e P "__doc__" 227 n)] 2,(.mk (t "type") none (.cls (.mk "NoPath" [(r 31)] [(r 44),(r 31),(t "ValueError"),(t "Exception"),(t "BaseException"),(t "object")] 43 "NoPath" true [] [] false none false)) (List.toArray [(some (r 35)),none,(some (s "NoPath" 214)),(some (s "NoPath" 222)),(some (u "ValueError.__new__")),(some (.bool true))])),O "super" [(r 44),(r 44),(r 44)],O "builtin_function_or_method" [(u "object.__init_subclass__"),(r 44)],T [(r 31)],O "builtin_function_or_method" [(u "type.__prepare__"),(t "type")],D [(e P "__module__" 237 (s "threeroad.errors" 194)),(e P "__qualname__" 239 (s "NoFile" 238)),(e P "__firstlineno__" 241 (i 9 240)),(e P "__static_attributes__" 242 (r 54))] 4,T [],E [],K "NoFile" "NoFile" 232 9 0 0 50 false n n n n 235,M 52 3 49 (s "threeroad.errors" 194),T [],D [(e P "__module__" 237 (s "threeroad.errors" 194)),(e P "__firstlineno__" 241 (i 9 240)),(e P "__static_attributes__" 242 (r 54)),(e P "__doc__" 243 n)] 2,(.mk (t "type") none (.cls (.mk "NoFile" [(r 31)] [(r 56),(r 31),(t "ValueError"),(t "Exception"),(t "BaseException"),(t "object")] 55 "NoFile" true [] [] false none false)) (List.toArray [(some (r 47)),none,(some (s "NoFile" 230)),(some (s "NoFile" 238)),(some (u "ValueError.__new__")),(some (.bool true))])),O "super" [(r 56),(r 56),(r 56)],O "builtin_function_or_method" [(u "object.__init_subclass__"),(r 56)],T [(r 31)],O "builtin_function_or_method" [(u "type.__prepare__"),(t "type")],D [(e P "__module__" 253 (s "threeroad.errors" 194)),(e P "__qualname__" 255 (s "InTheWay" 254)),(e P "__firstlineno__" 257 (i 11 256)),(e P "__static_attributes__" 258 (r 66))] 4,T [],E [],K "InTheWay" "InTheWay" 248 11 0 0 62 false n n n n 251,M 64 3 61 (s "threeroad.errors" 194),T [],D [(e P "__module__" 253 (s "threeroad.errors" 194)),(e P "__firstlineno__" 257 (i 11 256)),(e P "__static_attributes__" 258 (r 66)),(e P "__doc__" 259 n)] 2,(.mk (t "type") none (.cls (.mk "InTheWay" [(r 31)] [(r 68),(r 31),(t "ValueError"),(t "Exception"),(t "BaseException"),(t "object")] 67 "InTheWay" true [] [] false none false)) (List.toArray [(some (r 59)),none,(some (s "InTheWay" 246)),(some (s "InTheWay" 254)),(some (u "ValueError.__new__")),(some (.bool true))])),O "super" [(r 68),(r 68),(r 68)],O "builtin_function_or_method" [(u "object.__init_subclass__"),(r 68)],T [(r 31)],O "builtin_function_or_method" [(u "type.__prepare__"),(t "type")],D [(e P "__module__" 269 (s "threeroad.errors" 194)),(e P "__qualname__" 271 (s "NoClash" 270)),(e P "__firstlineno__" 273 (i 13 272)),(e P "__static_attributes__" 274 (r 78))] 4,T [],E [],K "NoClash" "NoClash" 264 13 0 0 74 false n n n n 267,M 76 3 73 (s "threeroad.errors" 194),T [],D [(e P "__module__" 269 (s "threeroad.errors" 194)),(e P "__firstlineno__" 273 (i 13 272)),(e P "__static_attributes__" 274 (r 78)),(e P "__doc__" 275 n)] 2,(.mk (t "type") none (.cls (.mk "NoClash" [(r 31)] [(r 80),(r 31),(t "ValueError"),(t "Exception"),(t "BaseException"),(t "object")] 79 "NoClash" true [] [] false none false)) (List.toArray [(some (r 71)),none,(some (s "NoClash" 262)),(some (s "NoClash" 270)),(some (u "ValueError.__new__")),(some (.bool true))])),O "super" [(r 80),(r 80),(r 80)],O "builtin_function_or_method" [(u "object.__init_subclass__"),(r 80)],T [(r 31)],O "builtin_function_or_method" [(u "type.__prepare__"),(t "type")],D [(e P "__module__" 285 (s "threeroad.errors" 194)),(e P "__qualname__" 287 (s "Clashed" 286)),(e P "__firstlineno__" 289 (i 15 288)),(e P "__static_attributes__" 290 (r 90))] 4,T [],E [],K "Clashed" "Clashed" 280 15 0 0 86 false n n n n 283,M 88 3 85 (s "threeroad.errors" 194),T [],D [(e P "__module__" 285 (s "threeroad.errors" 194)),(e P "__firstlineno__" 289 (i 15 288)),(e P "__static_attributes__" 290 (r 90)),(e P "__doc__" 291 n)] 2,(.mk (t "type") none (.cls (.mk "Clashed" [(r 31)] [(r 92),(r 31),(t "ValueError"),(t "Exception"),(t "BaseException"),(t "object")] 91 "Clashed" true [] [] false none false)) (List.toArray [(some (r 83)),none,(some (s "Clashed" 278)),(some (s "Clashed" 286)),(some (u "ValueError.__new__")),(some (.bool true))])),O "super" [(r 92),(r 92),(r 92)],O "builtin_function_or_method" [(u "object.__init_subclass__"),(r 92)],T [(r 31)],O "builtin_function_or_method" [(u "type.__prepare__"),(t "type")],D [(e P "__module__" 301 (s "threeroad.errors" 194)),(e P "__qualname__" 303 (s "NoVersion" 302)),(e P "__firstlineno__" 305 (i 17 304)),(e P "__static_attributes__" 306 (r 102))] 4,T [],E [],K "NoVersion" "NoVersion" 296 17 0 0 98 false n n n n 299,M 100 3 97 (s "threeroad.errors" 194),T [],D [(e P "__module__" 301 (s "threeroad.errors" 194)),(e P "__firstlineno__" 305 (i 17 304)),(e P "__static_attributes__" 306 (r 102)),(e P "__doc__" 307 n)] 2,(.mk (t "type") none (.cls (.mk "NoVersion" [(r 31)] [(r 104),(r 31),(t "ValueError"),(t "Exception"),(t "BaseException"),(t "object")] 103 "NoVersion" true [] [] false none false)) (List.toArray [(some (r 95)),none,(some (s "NoVersion" 294)),(some (s "NoVersion" 302)),(some (u "ValueError.__new__")),(some (.bool true))])),O "super" [(r 104),(r 104),(r 104)],O "builtin_function_or_method" [(u "object.__init_subclass__"),(r 104)],T [(r 31)],O "builtin_function_or_method" [(u "type.__prepare__"),(t "type")],D [(e P "__module__" 317 (s "threeroad.errors" 194)),(e P "__qualname__" 319 (s "SameVersion" 318)),(e P "__firstlineno__" 321 (i 19 320)),(e P "__static_attributes__" 322 (r 114))] 4,T [],E [],K "SameVersion" "SameVersion" 312 19 0 0 110 false n n n n 315,M 112 3 109 (s "threeroad.errors" 194),T [],D [(e P "__module__" 317 (s "threeroad.errors" 194)),(e P "__firstlineno__" 321 (i 19 320)),(e P "__static_attributes__" 322 (r 114)),(e P "__doc__" 323 n)] 2,(.mk (t "type") none (.cls (.mk "SameVersion" [(r 31)] [(r 116),(r 31),(t "ValueError"),(t "Exception"),(t "BaseException"),(t "object")] 115 "SameVersion" true [] [] false none false)) (List.toArray [(some (r 107)),none,(some (s "SameVersion" 310)),(some (s "SameVersion" 318)),(some (u "ValueError.__new__")),(some (.bool true))])),O "super" [(r 116),(r 116),(r 116)],O "builtin_function_or_method" [(u "object.__init_subclass__"),(r 116)],T [],E [],T [(s "text" 337),(s "sign" 338)],T [],G "is_part" "is_part" TB 14,K "is_part" "is_part" 334 25 1 3 119 true n (r 121) (r 122) (r 123) 339,F "is_part" "is_part" TB 14 3 (s "threeroad.paths" 326) (r 124),T [],E [],T [(s "text" 345),(s "parts" 346),(s "part" 347)],T [],G "is_path" "is_path" TB 15,K "is_path" "is_path" 342 32 1 3 126 true n (r 128) (r 129) (r 130) 348,F "is_path" "is_path" TB 15 3 (s "threeroad.paths" 326) (r 131),T [],E [],G "above" "above" TB 16,K "above" "above" 351 40 1 3 133 true n n n (r 135) 354,F "above" "above" TB 16 3 (s "threeroad.paths" 326) (r 136),T [],E [],T [(s "path" 360),(s "upper" 361)],T [],G "is_beneath" "is_beneath" TB 17,K "is_beneath" "is_beneath" 357 43 2 3 138 true n (r 140) (r 141) (r 142) 362,F "is_beneath" "is_beneath" TB 17 3 (s "threeroad.paths" 326) (r 143),T [],E [],T [(s "elder" 370),(s "one" 371),(s "other" 372),(s "found" 373),(s "tree" 374),(s "path" 375)],T [],G "all_paths" "all_paths" TB 19,K "all_paths" "all_paths" 367 46 3 3 145 true n (r 147) (r 148) (r 149) 376,F "all_paths" "all_paths" TB 19 3 (s "threeroad.joining" 365) (r 150),T [],E [],T [(s "elder" 382),(s "one" 383),(s "other" 384),(s "told" 385),(s "path" 386),(s "was" 387),(s "mine" 388),(s "theirs" 389)],T [],G "marks" "marks" TB 20,K "marks" "marks" 379 52 3 3 152 true n (r 154) (r 155) (r 156) 390,F "marks" "marks" TB 20 3 (s "threeroad.joining" 365) (r 157),T [],E [],G "clashing" "clashing" TB 21,K "clashing" "clashing" 393 68 3 3 159 true n n n (r 161) 396,F "clashing" "clashing" TB 21 3 (s "threeroad.joining" 365) (r 162),T [],E [],T [(s "elder" 402),(s "one" 403),(s "other" 404),(s "away" 405),(s "found" 406),(s "path" 407),(s "text" 408)],T [],G "standing" "standing" TB 22,K "standing" "standing" 399 70 3 3 164 true n (r 166) (r 167) (r 168) 409,F "standing" "standing" TB 22 3 (s "threeroad.joining" 365) (r 169),T [],E [],G "clashes" "clashes" TB 23,K "clashes" "clashes" 412 80 3 3 171 true n n n (r 173) 415,F "clashes" "clashes" TB 23 3 (s "threeroad.joining" 365) (r 174),T [],E [],T [(s "elder" 421),(s "one" 422),(s "other" 423),(s "picks" 424),(s "known" 425),(s "clash" 426),(s "path" 427),(s "files" 428),(s "folder" 429)],T [],G "joined" "joined" TB 24,K "joined" "joined" 418 88 4 3 176 true n (r 178) (r 179) (r 180) 430,F "joined" "joined" TB 24 3 (s "threeroad.joining" 365) (r 181),T [],E [],T [(s "tree" 438),(s "deed" 439),(s "path" 440),(s "fresh" 441),(s "other" 442)],T [],G "done" "done" TB 26,K "done" "done" 435 111 2 3 183 true n (r 185) (r 186) (r 187) 443,F "done" "done" TB 26 3 (s "threeroad.trees" 433) (r 188),T [],E [],T [(s "tree" 449),(s "deeds" 450),(s "fresh" 451),(s "deed" 452)],T [],G "changed" "changed" TB 27,K "changed" "changed" 446 126 2 3 190 true n (r 192) (r 193) (r 194) 453,F "changed" "changed" TB 27 3 (s "threeroad.trees" 433) (r 195),T [],O "builtin_function_or_method" [(u "type.__prepare__"),(t "type")],D [(e P "__module__" 465 (s "threeroad.book" 456)),(e P "__qualname__" 467 (s "Book" 466)),(e P "__firstlineno__" 469 (i 132 468)),(e P "__init__" 476 (r 210)),(e P "need" 484 (r 217)),(e P "many" 491 (r 224)),(e P "tree" 499 (r 231)),(e P "parents" 507 (r 238)),(e P "put_down" 516 (r 245)),(e P "grow" 525 (r 252)),(e P "merge" 537 (r 259)),(e P "elders" 548 (r 266)),(e P "nearest" 554 (r 271)),(e P "road" 563 (r 278)),(e P "story" 572 (r 285)),(e P "__static_attributes__" 575 (r 286))] 16,T [],E [(z 134),(z 4),(r 209),(z 138),(z 4),(r 216),(z 142),(z 4),(r 223),(z 145),(z 4),(r 230),(z 149),(z 4),(r 237),(z 153),(z 4),(r 244),(z 158),(z 4),(r 251),(z 162),(z 4),(r 258),(z 171),(z 4),(r 265),(z 180),(z 4),(r 270),(z 184),(z 4),(r 277),(z 187),(z 4),(r 284)],K "Book" "Book" 460 132 0 0 200 false n n n n 463,M 202 3 199 (s "threeroad.book" 456),T [],E [],T [(s "self" 473)],T [],G "__init__" "Book.__init__" (cB TB 29) 0,K "__init__" "Book.__init__" 470 134 1 3 204 true n (r 206) (r 207) (r 208) 474,F "__init__" "Book.__init__" (cB TB 29) 0 3 (s "threeroad.book" 456) (r 209),T [],E [],T [(s "self" 480),(s "number" 481)],T [],G "need" "Book.need" (cB TB 29) 1,K "need" "Book.need" 477 138 2 3 211 true n (r 213) (r 214) (r 215) 482,F "need" "Book.need" (cB TB 29) 1 3 (s "threeroad.book" 456) (r 216),T [],E [],T [(s "self" 488)],T [],G "many" "Book.many" (cB TB 29) 2,K "many" "Book.many" 485 142 1 3 218 true n (r 220) (r 221) (r 222) 489,F "many" "Book.many" (cB TB 29) 2 3 (s "threeroad.book" 456) (r 223),T [],E [],T [(s "self" 495),(s "number" 496)],T [],G "tree" "Book.tree" (cB TB 29) 3,K "tree" "Book.tree" 492 145 2 3 225 true n (r 227) (r 228) (r 229) 497,F "tree" "Book.tree" (cB TB 29) 3 3 (s "threeroad.book" 456) (r 230),T [],E [],T [(s "self" 503),(s "number" 504)],T [],G "parents" "Book.parents" (cB TB 29) 4,K "parents" "Book.parents" 500 149 2 3 232 true n (r 234) (r 235) (r 236) 505,F "parents" "Book.parents" (cB TB 29) 4 3 (s "threeroad.book" 456) (r 237),T [],E [],T [(s "self" 511),(s "tree" 512),(s "parents" 513)],T [],G "put_down" "Book.put_down" (cB TB 29) 5,K "put_down" "Book.put_down" 508 153 3 3 239 true n (r 241) (r 242) (r 243) 514,F "put_down" "Book.put_down" (cB TB 29) 5 3 (s "threeroad.book" 456) (r 244),T [],E [],T [(s "self" 520),(s "parent" 521),(s "deeds" 522)],T [],G "grow" "Book.grow" (cB TB 29) 6,K "grow" "Book.grow" 517 158 3 3 246 true n (r 248) (r 249) (r 250) 523,F "grow" "Book.grow" (cB TB 29) 6 3 (s "threeroad.book" 456) (r 251),T [],E [],T [(s "self" 529),(s "one" 530),(s "other" 531),(s "picks" 532),(s "elder" 533),(s "tree" 534)],T [],G "merge" "Book.merge" (cB TB 29) 7,K "merge" "Book.merge" 526 162 4 3 253 true n (r 255) (r 256) (r 257) 535,F "merge" "Book.merge" (cB TB 29) 7 3 (s "threeroad.book" 456) (r 258),T [],E [],T [(s "self" 541),(s "number" 542),(s "found" 543),(s "k" 544),(s "parent" 545)],T [],G "elders" "Book.elders" (cB TB 29) 8,K "elders" "Book.elders" 538 171 2 3 260 true n (r 262) (r 263) (r 264) 546,F "elders" "Book.elders" (cB TB 29) 8 3 (s "threeroad.book" 456) (r 265),T [],E [],G "nearest" "Book.nearest" (cB TB 29) 9,K "nearest" "Book.nearest" 549 180 3 3 267 true n n n (r 269) 552,F "nearest" "Book.nearest" (cB TB 29) 9 3 (s "threeroad.book" 456) (r 270),T [],E [],T [(s "self" 558),(s "elder" 559),(s "number" 560)],T [],G "road" "Book.road" (cB TB 29) 10,K "road" "Book.road" 555 184 3 3 272 true n (r 274) (r 275) (r 276) 561,F "road" "Book.road" (cB TB 29) 10 3 (s "threeroad.book" 456) (r 277),T [],E [],T [(s "self" 567),(s "number" 568),(s "path" 569)],T [],G "story" "Book.story" (cB TB 29) 11,K "story" "Book.story" 564 187 3 3 279 true n (r 281) (r 282) (r 283) 570,F "story" "Book.story" (cB TB 29) 11 3 (s "threeroad.book" 456) (r 284),T [(s "made_of" 573),(s "trees" 574)],D [(e P "__module__" 465 (s "threeroad.book" 456)),(e P "__firstlineno__" 469 (i 132 468)),(e P "__init__" 476 (r 210)),(e P "need" 484 (r 217)),(e P "many" 491 (r 224)),(e P "tree" 499 (r 231)),(e P "parents" 507 (r 238)),(e P "put_down" 516 (r 245)),(e P "grow" 525 (r 252)),(e P "merge" 537 (r 259)),(e P "elders" 548 (r 266)),(e P "nearest" 554 (r 271)),(e P "road" 563 (r 278)),(e P "story" 572 (r 285)),(e P "__static_attributes__" 575 (r 286)),(e P "__dict__" 577 (r 289)),(e P "__weakref__" 579 (r 290)),(e P "__doc__" 580 n)] 4,(.mk (t "type") none (.cls (.mk "Book" [(t "object")] [(r 288),(t "object")] 287 "Book" true [] [] false none false)) (List.toArray [none,none,(some (s "Book" 458)),(some (s "Book" 466)),(some (u "object.__new__")),(some (.bool true))])),O "getset_descriptor" [(s "__dict__" 576),(r 288),(u "function.__dict__"),(u "function.__dict__#set")],O "getset_descriptor" [(s "__weakref__" 578),(r 288),(u "ExceptionGroup.__weakref__"),n],O "super" [(r 288),(r 288),(r 288)],O "builtin_function_or_method" [(u "object.__init_subclass__"),(r 288)],T [],E [],T [(s "_law_k" 588)],T [],G "_law_sign_by" "_law_sign_by" TB 31,K "_law_sign_by" "_law_sign_by" 585 190 1 3 293 true n (r 295) (r 296) (r 297) 589,F "_law_sign_by" "_law_sign_by" TB 31 3 (s "law_uf050007_11" 583) (r 298),T [],E [],G "_law_name_by" "_law_name_by" TB 32,K "_law_name_by" "_law_name_by" 592 192 2 3 300 true n n n (r 302) 595,F "_law_name_by" "_law_name_by" TB 32 3 (s "law_uf050007_11" 583) (r 303),T [],E [],G "_law_path_by" "_law_path_by" TB 33,K "_law_path_by" "_law_path_by" 598 206 2 3 305 true n n n (r 307) 601,F "_law_path_by" "_law_path_by" TB 33 3 (s "law_uf050007_11" 583) (r 308),T [],E [],G "_law_line_by" "_law_line_by" TB 34,K "_law_line_by" "_law_line_by" 604 216 2 3 310 true n n n (r 312) 607,F "_law_line_by" "_law_line_by" TB 34 3 (s "law_uf050007_11" 583) (r 313),T [],E [],T [(s "_law_tree" 613),(s "_law_path" 614),(s "_law_other" 615)],T [],G "_law_is_free" "_law_is_free" TB 35,K "_law_is_free" "_law_is_free" 610 225 2 3 315 true n (r 317) (r 318) (r 319) 616,F "_law_is_free" "_law_is_free" TB 35 3 (s "law_uf050007_11" 583) (r 320),T [],E [],T [(s "_law_tree" 622),(s "_law_deeds" 623),(s "_law_made" 624),(s "_law_deed" 625)],T [],G "_law_word_of" "_law_word_of" TB 36,K "_law_word_of" "_law_word_of" 619 230 2 3 322 true n (r 324) (r 325) (r 326) 626,F "_law_word_of" "_law_word_of" TB 36 3 (s "law_uf050007_11" 583) (r 327),T [],E [],T [(s "_law_cell" 632),(s "_law_tree" 633),(s "_law_shift" 634),(s "_law_deeds" 635),(s "_law_many" 636),(s "_law_j" 637),(s "_law_mixed" 638),(s "_law_path" 639),(s "_law_deed" 640),(s "_law_behind" 641)],T [],G "_law_deeds_by" "_law_deeds_by" TB 37,K "_law_deeds_by" "_law_deeds_by" 629 244 3 3 329 true n (r 331) (r 332) (r 333) 642,F "_law_deeds_by" "_law_deeds_by" TB 37 3 (s "law_uf050007_11" 583) (r 334),T [],E [],G "_law_joined_by" "_law_joined_by" TB 38,K "_law_joined_by" "_law_joined_by" 645 264 4 3 336 true n n n (r 338) 648,F "_law_joined_by" "_law_joined_by" TB 38 3 (s "law_uf050007_11" 583) (r 339),T [],E [],G "_law_nearest_by" "_law_nearest_by" TB 39,K "_law_nearest_by" "_law_nearest_by" 651 282 3 3 341 true n n n (r 343) 654,F "_law_nearest_by" "_law_nearest_by" TB 39 3 (s "law_uf050007_11" 583) (r 344),T [],E [],T [(s "_law_book" 660),(s "_law_parent" 661),(s "_law_deeds" 662),(s "e" 663),(s "_law_word" 664)],T [],G "_law_grew" "_law_grew" TB 40,K "_law_grew" "_law_grew" 657 291 3 3 346 true n (r 348) (r 349) (r 350) 665,F "_law_grew" "_law_grew" TB 40 3 (s "law_uf050007_11" 583) (r 351),T [],E [],T [(s "_law_book" 671),(s "_law_one" 672),(s "_law_other" 673),(s "_law_picks" 674),(s "e" 675),(s "_law_word" 676)],T [],G "_law_joined" "_law_joined" TB 41,K "_law_joined" "_law_joined" 668 297 4 3 353 true n (r 355) (r 356) (r 357) 677,F "_law_joined" "_law_joined" TB 41 3 (s "law_uf050007_11" 583) (r 358),T [],E [],T [(s "_law_book" 683),(s "_law_trees" 684),(s "_law_older" 685),(s "_law_cell" 686),(s "_law_shift" 687),(s "_law_parent" 688),(s "_law_deeds" 689),(s "_law_due" 690),(s "_law_kept" 691),(s "_law_found" 692)],T [],G "_law_grows" "_law_grows" TB 42,K "_law_grows" "_law_grows" 680 303 5 3 360 true n (r 362) (r 363) (r 364) 693,F "_law_grows" "_law_grows" TB 42 3 (s "law_uf050007_11" 583) (r 365),T [],E [],T [(s "_law_book" 699),(s "_law_trees" 700),(s "_law_older" 701),(s "_law_cell" 702),(s "_law_shift" 703),(s "_law_one" 704),(s "_law_other" 705),(s "_law_elder" 706),(s "_law_picks" 707),(s "_law_made" 708),(s "_law_places" 709),(s "_law_k" 710),(s "_law_due" 711),(s "_law_kept" 712),(s "_law_found" 713)],T [],G "_law_joins" "_law_joins" TB 43,K "_law_joins" "_law_joins" 696 317 5 3 367 true n (r 369) (r 370) (r 371) 714,F "_law_joins" "_law_joins" TB 43 3 (s "law_uf050007_11" 583) (r 372),T [],E [],T [(s "_law_book" 720),(s "_law_trees" 721),(s "_law_older" 722),(s "_law_cell" 723),(s "_law_shift" 724),(s "_law_holds" 725)],T [],G "_law_turn" "_law_turn" TB 44,K "_law_turn" "_law_turn" 717 345 5 3 374 true n (r 376) (r 377) (r 378) 726,F "_law_turn" "_law_turn" TB 44 3 (s "law_uf050007_11" 583) (r 379),T [],E [],T [(s "_law_book" 732),(s "_law_trees" 733),(s "_law_older" 734),(s "_law_number" 735),(s "_law_tree" 736)],T [],G "_law_reads" "_law_reads" TB 45,K "_law_reads" "_law_reads" 729 351 4 3 381 true n (r 383) (r 384) (r 385) 737,F "_law_reads" "_law_reads" TB 45 3 (s "law_uf050007_11" 583) (r 386),T [],E [],G "law" "law" TB 46,K "law" "law" 740 357 1 3 388 true n n n (r 390) 743,F "law" "law" TB 46 3 (s "law_uf050007_11" 583) (r 391)]
noncomputable def ob (P:Params) (a:Nat):Obj:=(lz P).getD a default
noncomputable def hp_a (P:Params):Heap:=Heap.mk ⟨(((lz P).take 15).set 3 (boot_o_3 P)).set 12 (o12_0 P)⟩ lfe
abbrev sl_a (w:World) (os:OsState):Shared:=Shared.mk (hp_a w.params) #[] dw 187 os
noncomputable def tr_b (P:Params):PySem.W.BT:=bt 9 ((((lz P).take 15).set 3 (boot_o_3 P)).set 12 (o12_0 P))
abbrev st_b (w:World) (os:OsState):SharedT:=SharedT.mk (tr_b w.params) 15 lfe #[] dw 187 os
theorem q_pre:∀w:World,(fun os=>topGo treeTable pw w 11 ann 12 (s0 w os) (topStub pw))=fun os=>some (sl_a w os,Thread.mk (denote treeTable cE) cE (ps 0 0 0 0) BB):=fun w=>by rw[topGo_q,table_q,denote_q];kernel_rfl
theorem q_block:∀w:World,(fun os=>segRun treeTable pw w 11 ann 1 1 (sl_a w os) (blockOf (behindTheImports pw) env cE (ps 0 0 0 0) BB))=fun os=>some (Flow.next,(st_b w os).abs,cE,(ps 0 0 0 0)):=fun w=>by rw[segRun_q,table_q];kernel_rfl
noncomputable def tr_4 (P:Params):PySem.W.BT:=bt 9 (((((lz P).take 47).set 3 (o3_0 P)).set 12 (o12_1 P)).set 31 (o31_0 P))
abbrev st_4 (w:World) (os:OsState):SharedT:=SharedT.mk (tr_4 w.params) 47 lfe #[] dw 230 os
noncomputable def ss_4:List Stmt:=((behindTheImports pw).drop 0).take 4
theorem q_4:∀w:World,(fun os=>segRunT treeTable pw w 11 ann 1 438 (st_b w os) (piecesOf ss_4 env cE (ps 0 0 0 0) BB))=fun os=>some (Flow.next,st_4 w os,cE,(ps 7 0 8 8)):=fun w=>by rw[segRunT_q,table_q];kernel_rfl
noncomputable def tr_6 (P:Params):PySem.W.BT:=bt 9 (((((lz P).take 71).set 3 (o3_1 P)).set 12 (o12_2 P)).set 31 (o31_1 P))
abbrev st_6 (w:World) (os:OsState):SharedT:=SharedT.mk (tr_6 w.params) 71 lfe #[] dw 262 os
noncomputable def ss_6:List Stmt:=((behindTheImports pw).drop 4).take 2
theorem q_6:∀w:World,(fun os=>segRunT treeTable pw w 11 ann 1 427 (st_4 w os) (piecesOf ss_6 env cE (ps 7 0 8 8) BB))=fun os=>some (Flow.next,st_6 w os,cE,(ps 11 0 12 8)):=fun w=>by rw[segRunT_q,table_q];kernel_rfl
noncomputable def tr_8 (P:Params):PySem.W.BT:=bt 9 (((((lz P).take 95).set 3 (o3_2 P)).set 12 (o12_3 P)).set 31 (o31_2 P))
abbrev st_8 (w:World) (os:OsState):SharedT:=SharedT.mk (tr_8 w.params) 95 lfe #[] dw 294 os
noncomputable def ss_8:List Stmt:=((behindTheImports pw).drop 6).take 2
theorem q_8:∀w:World,(fun os=>segRunT treeTable pw w 11 ann 1 427 (st_6 w os) (piecesOf ss_8 env cE (ps 11 0 12 8) BB))=fun os=>some (Flow.next,st_8 w os,cE,(ps 15 0 16 8)):=fun w=>by rw[segRunT_q,table_q];kernel_rfl
noncomputable def tr_12 (P:Params):PySem.W.BT:=bt 9 ((((lz P).take 119).set 3 (o3_3 P)).set 12 (o12_4 P))
abbrev st_12 (w:World) (os:OsState):SharedT:=SharedT.mk (tr_12 w.params) 119 lfe #[] dw 330 os
noncomputable def ss_12:List Stmt:=((behindTheImports pw).drop 8).take 4
theorem q_12:∀w:World,(fun os=>segRunT treeTable pw w 11 ann 1 445 (st_8 w os) (piecesOf ss_12 env cE (ps 15 0 16 8) BB))=fun os=>some (Flow.next,st_12 w os,cE,(ps 22 0 22 5)):=fun w=>by rw[segRunT_q,table_q];kernel_rfl
noncomputable def tr_29 (P:Params):PySem.W.BT:=bt 9 ((((lz P).take 197).set 3 (o3_4 P)).set 12 (o12_5 P))
abbrev st_29 (w:World) (os:OsState):SharedT:=SharedT.mk (tr_29 w.params) 197 lfe #[] dw 458 os
noncomputable def ss_29:List Stmt:=((behindTheImports pw).drop 12).take 17
theorem q_29:∀w:World,(fun os=>segRunT treeTable pw w 11 ann 1 422 (st_12 w os) (piecesOf ss_29 env cE (ps 22 0 22 5) BB))=fun os=>some (Flow.next,st_29 w os,cE,(ps 131 0 131 8)):=fun w=>by rw[segRunT_q,table_q];kernel_rfl
noncomputable def tr_30 (P:Params):PySem.W.BT:=bt 9 ((((lz P).take 293).set 3 (o3_5 P)).set 12 (o12_6 P))
abbrev st_30 (w:World) (os:OsState):SharedT:=SharedT.mk (tr_30 w.params) 293 lfe #[] dw 583 os
noncomputable def ss_30:List Stmt:=((behindTheImports pw).drop 29).take 1
theorem q_30:∀w:World,(fun os=>segRunT treeTable pw w 11 ann 1 581 (st_29 w os) (piecesOf ss_30 env cE (ps 131 0 131 8) BB))=fun os=>some (Flow.next,st_30 w os,cE,(ps 132 0 188 16)):=fun w=>by rw[segRunT_q,table_q];kernel_rfl
noncomputable def tr_44 (P:Params):PySem.W.BT:=bt 9 ((((lz P).take 374).set 3 (o3_6 P)).set 12 (o12_7 P))
abbrev st_44 (w:World) (os:OsState):SharedT:=SharedT.mk (tr_44 w.params) 374 lfe #[] dw 717 os
noncomputable def ss_44:List Stmt:=((behindTheImports pw).drop 30).take 14
theorem q_44:∀w:World,(fun os=>segRunT treeTable pw w 11 ann 1 418 (st_30 w os) (piecesOf ss_44 env cE (ps 132 0 188 16) BB))=fun os=>some (Flow.next,st_44 w os,cE,(ps 317 0 344 44)):=fun w=>by rw[segRunT_q,table_q];kernel_rfl
noncomputable def tr_47 (P:Params):PySem.W.BT:=bt 9 (lz P)
abbrev st_47 (w:World) (os:OsState):SharedT:=SharedT.mk (tr_47 w.params) 393 lfe #[] dw 746 os
noncomputable def ss_47:List Stmt:=((behindTheImports pw).drop 44).take 3
theorem q_47:∀w:World,(fun os=>segRunT treeTable pw w 11 ann 1 94 (st_44 w os) (piecesOf ss_47 env cE (ps 317 0 344 44) BB))=fun os=>some (Flow.next,st_47 w os,cE,(ps 357 0 387 15)):=fun w=>by rw[segRunT_q,table_q];kernel_rfl
noncomputable def hp_f (P:Params):Heap:=Heap.mk ⟨lz P⟩ lfe
abbrev sl_f (w:World) (os:OsState):Shared:=Shared.mk (hp_f w.params) #[] dw 746 os
theorem q_fin:∀w:World,(fun os=>topRun treeTable pw w 11 ann 2 (st_47 w os).abs (Thread.mk (doneF .next) cE (ps 357 0 387 15) BB))=fun os=>some (sl_f w os):=fun w=>by rw[topRun_q,table_q];kernel_rfl
theorem body_eq:behindTheImports pw=(ss_4++(ss_6++(ss_8++(ss_12++(ss_29++(ss_30++(ss_44++(ss_47++([]:List Stmt))))))))):=by kernel_rfl
theorem q_rest (w:World) (os:OsState):topRun treeTable pw w 11 ann (Nat.add 438 (Nat.add 427 (Nat.add 427 (Nat.add 445 (Nat.add 422 (Nat.add 581 (Nat.add 418 (Nat.add 94 2)))))))) (st_b w os).abs (restOf (ss_4++(ss_6++(ss_8++(ss_12++(ss_29++(ss_30++(ss_44++(ss_47++([]:List Stmt))))))))) env cE (ps 0 0 0 0) BB)=some (sl_f w os):=
 (piece_app (tb:=treeTable) (p:=pw) (w:=w) (n₀:=11) (ann:=ann) (env:=env) (q:=qq) (n:=438) (N:=(Nat.add 427 (Nat.add 427 (Nat.add 445 (Nat.add 422 (Nat.add 581 (Nat.add 418 (Nat.add 94 2)))))))) (s:=(st_b w os).abs) (s':=(st_4 w os).abs) (r:=sl_f w os) (l:=ss_4) (rest:=(ss_6++(ss_8++(ss_12++(ss_29++(ss_30++(ss_44++(ss_47++([]:List Stmt))))))))) (c:=cE) (pos:=(ps 0 0 0 0)) (p':=(ps 7 0 8 8)) (segRun_of (congrFun (q_4 w) os))
  (piece_app (tb:=treeTable) (p:=pw) (w:=w) (n₀:=11) (ann:=ann) (env:=env) (q:=qq) (n:=427) (N:=(Nat.add 427 (Nat.add 445 (Nat.add 422 (Nat.add 581 (Nat.add 418 (Nat.add 94 2))))))) (s:=(st_4 w os).abs) (s':=(st_6 w os).abs) (r:=sl_f w os) (l:=ss_6) (rest:=(ss_8++(ss_12++(ss_29++(ss_30++(ss_44++(ss_47++([]:List Stmt)))))))) (c:=cE) (pos:=(ps 7 0 8 8)) (p':=(ps 11 0 12 8)) (segRun_of (congrFun (q_6 w) os))
  (piece_app (tb:=treeTable) (p:=pw) (w:=w) (n₀:=11) (ann:=ann) (env:=env) (q:=qq) (n:=427) (N:=(Nat.add 445 (Nat.add 422 (Nat.add 581 (Nat.add 418 (Nat.add 94 2)))))) (s:=(st_6 w os).abs) (s':=(st_8 w os).abs) (r:=sl_f w os) (l:=ss_8) (rest:=(ss_12++(ss_29++(ss_30++(ss_44++(ss_47++([]:List Stmt))))))) (c:=cE) (pos:=(ps 11 0 12 8)) (p':=(ps 15 0 16 8)) (segRun_of (congrFun (q_8 w) os))
  (piece_app (tb:=treeTable) (p:=pw) (w:=w) (n₀:=11) (ann:=ann) (env:=env) (q:=qq) (n:=445) (N:=(Nat.add 422 (Nat.add 581 (Nat.add 418 (Nat.add 94 2))))) (s:=(st_8 w os).abs) (s':=(st_12 w os).abs) (r:=sl_f w os) (l:=ss_12) (rest:=(ss_29++(ss_30++(ss_44++(ss_47++([]:List Stmt)))))) (c:=cE) (pos:=(ps 15 0 16 8)) (p':=(ps 22 0 22 5)) (segRun_of (congrFun (q_12 w) os))
  (piece_app (tb:=treeTable) (p:=pw) (w:=w) (n₀:=11) (ann:=ann) (env:=env) (q:=qq) (n:=422) (N:=(Nat.add 581 (Nat.add 418 (Nat.add 94 2)))) (s:=(st_12 w os).abs) (s':=(st_29 w os).abs) (r:=sl_f w os) (l:=ss_29) (rest:=(ss_30++(ss_44++(ss_47++([]:List Stmt))))) (c:=cE) (pos:=(ps 22 0 22 5)) (p':=(ps 131 0 131 8)) (segRun_of (congrFun (q_29 w) os))
  (piece_app (tb:=treeTable) (p:=pw) (w:=w) (n₀:=11) (ann:=ann) (env:=env) (q:=qq) (n:=581) (N:=(Nat.add 418 (Nat.add 94 2))) (s:=(st_29 w os).abs) (s':=(st_30 w os).abs) (r:=sl_f w os) (l:=ss_30) (rest:=(ss_44++(ss_47++([]:List Stmt)))) (c:=cE) (pos:=(ps 131 0 131 8)) (p':=(ps 132 0 188 16)) (segRun_of (congrFun (q_30 w) os))
  (piece_app (tb:=treeTable) (p:=pw) (w:=w) (n₀:=11) (ann:=ann) (env:=env) (q:=qq) (n:=418) (N:=(Nat.add 94 2)) (s:=(st_30 w os).abs) (s':=(st_44 w os).abs) (r:=sl_f w os) (l:=ss_44) (rest:=(ss_47++([]:List Stmt))) (c:=cE) (pos:=(ps 132 0 188 16)) (p':=(ps 317 0 344 44)) (segRun_of (congrFun (q_44 w) os))
  (piece_app (tb:=treeTable) (p:=pw) (w:=w) (n₀:=11) (ann:=ann) (env:=env) (q:=qq) (n:=94) (N:=2) (s:=(st_44 w os).abs) (s':=(st_47 w os).abs) (r:=sl_f w os) (l:=ss_47) (rest:=([]:List Stmt)) (c:=cE) (pos:=(ps 317 0 344 44)) (p':=(ps 357 0 387 15)) (segRun_of (congrFun (q_47 w) os))
  (congrFun (q_fin w) os)))))))))
theorem q_run (w:World) (os:OsState):topRun treeTable pw w 11 ann (Nat.add 12 (Nat.add 1 (Nat.add 438 (Nat.add 427 (Nat.add 427 (Nat.add 445 (Nat.add 422 (Nat.add 581 (Nat.add 418 (Nat.add 94 2)))))))))) (s0 w os) (topStub pw)=some (sl_f w os):=
 go_top (congrFun (q_pre w) os) (piece_block (congrFun (q_block w) os) (by rw[show restOf (behindTheImports pw) env cE (ps 0 0 0 0) BB=restOf (ss_4++(ss_6++(ss_8++(ss_12++(ss_29++(ss_30++(ss_44++(ss_47++([]:List Stmt))))))))) env cE (ps 0 0 0 0) BB from congrArg (fun b=>restOf b env cE (ps 0 0 0 0) BB) body_eq];exact q_rest w os))
theorem q_le:Nat.ble (Nat.add 12 (Nat.add 1 (Nat.add 438 (Nat.add 427 (Nat.add 427 (Nat.add 445 (Nat.add 422 (Nat.add 581 (Nat.add 418 (Nat.add 94 2)))))))))) 6614=true:=by kernel_rfl
theorem q_open:∀w:World,(fencedOpening treeTable pw w 6614).map (fun s=>(s.heap,s.gens,s.drawn,s.toks))=some (boot_heap w.params,(@Array.mk GenState []),boot_drawn,boot_toks):=boot_open (by kernel_rfl) (by kernel_rfl) (fun _=>by kernel_rfl)
theorem q_size:∀w:World,((boot_heap w.params).isNs mainGlobals&&((@Array.mk GenState [])).size == 0,(boot_heap w.params).objs.size,(boot_heap w.params).nsMap mainGlobals "__annotations__")=(true,11,ann):=fun w=>by kernel_rfl
noncomputable def ks:List Addr:=[0,1,2,3,4,5,6,7,9,10,11,13,14,15,17,18,20,21,22,23,24,25,27,28,29,30,31,32,33,34,35,36,37,38,40,41,42,43,44,45,46,47,48,49,50,52,53,54,55,56,57,58,59,60,61,62,64,65,66,67,68,69,70,71,72,73,74,76,77,78,79,80,81,82,83,84,85,86,88,89,90,91,92,93,94,95,96,97,98,100,101,102,103,104,105,106,107,108,109,110,112,113,114,115,116,117,118,119,121,122,124,125,126,128,129,131,132,133,136,137,138,140,141,143,144,145,147,148,150,151,152,154,155,157,158,159,162,163,164,166,167,169,170,171,174,175,176,178,179,181,182,183,185,186,188,189,190,192,193,195,196,197,198,199,200,202,203,204,206,207,209,210,211,213,214,216,217,218,220,221,223,224,225,227,228,230,231,232,234,235,237,238,239,241,242,244,245,246,248,249,251,252,253,255,256,258,259,260,262,263,265,266,267,270,271,272,274,275,277,278,279,281,282,284,285,286,287,288,289,290,291,292,293,295,296,298,299,300,303,304,305,308,309,310,313,314,315,317,318,320,321,322,324,325,327,328,329,331,332,334,335,336,339,340,341,344,345,346,348,349,351,352,353,355,356,358,359,360,362,363,365,366,367,369,370,372,373,374,376,377,379,380,381,383,384,386,387,388,391,392]
noncomputable def kk (P:Params):Frag:=ks.map fun a=>(a,(lz P).getD a default)
abbrev NN:Nat:=6614
noncomputable def bkA:Addr:=288
noncomputable def bkN:Addr:=287
noncomputable def fd___init__ (P:Params):FuncData:=match (ob P 210).data with | .func fd=>fd | _=>default
theorem m___init__ (P:Params):(kk P).lookup 210=some (ob P 210)/\(ob P 210).cls=.type "function"/\(ob P 210).data=.func (fd___init__ P)/\codeIn (kk P) (fd___init__ P).code (fd___init__ P).qualname=true/\(fd___init__ P).body=.stmts (fB (cB TB 29) 0)/\(fd___init__ P).scope=fS (cB TB 29) 0/\(fd___init__ P).closure=[]/\(fd___init__ P).globals=mainGlobals/\(fd___init__ P).builtins=builtinsNs:=by
 refine⟨?_,?_,?_,?_,?_,?_,?_,?_,?_⟩<;>kernel_rfl
theorem mn___init__ (P:Params):nsIn (kk P) bkN (Str.ofString "__init__")=some (some (.ref 210)):=by kernel_rfl
noncomputable def fd_need (P:Params):FuncData:=match (ob P 217).data with | .func fd=>fd | _=>default
theorem m_need (P:Params):(kk P).lookup 217=some (ob P 217)/\(ob P 217).cls=.type "function"/\(ob P 217).data=.func (fd_need P)/\codeIn (kk P) (fd_need P).code (fd_need P).qualname=true/\(fd_need P).body=.stmts (fB (cB TB 29) 1)/\(fd_need P).scope=fS (cB TB 29) 1/\(fd_need P).closure=[]/\(fd_need P).globals=mainGlobals/\(fd_need P).builtins=builtinsNs:=by
 refine⟨?_,?_,?_,?_,?_,?_,?_,?_,?_⟩<;>kernel_rfl
theorem mn_need (P:Params):nsIn (kk P) bkN (Str.ofString "need")=some (some (.ref 217)):=by kernel_rfl
noncomputable def fd_many (P:Params):FuncData:=match (ob P 224).data with | .func fd=>fd | _=>default
theorem m_many (P:Params):(kk P).lookup 224=some (ob P 224)/\(ob P 224).cls=.type "function"/\(ob P 224).data=.func (fd_many P)/\codeIn (kk P) (fd_many P).code (fd_many P).qualname=true/\(fd_many P).body=.stmts (fB (cB TB 29) 2)/\(fd_many P).scope=fS (cB TB 29) 2/\(fd_many P).closure=[]/\(fd_many P).globals=mainGlobals/\(fd_many P).builtins=builtinsNs:=by
 refine⟨?_,?_,?_,?_,?_,?_,?_,?_,?_⟩<;>kernel_rfl
theorem mn_many (P:Params):nsIn (kk P) bkN (Str.ofString "many")=some (some (.ref 224)):=by kernel_rfl
noncomputable def fd_tree (P:Params):FuncData:=match (ob P 231).data with | .func fd=>fd | _=>default
theorem m_tree (P:Params):(kk P).lookup 231=some (ob P 231)/\(ob P 231).cls=.type "function"/\(ob P 231).data=.func (fd_tree P)/\codeIn (kk P) (fd_tree P).code (fd_tree P).qualname=true/\(fd_tree P).body=.stmts (fB (cB TB 29) 3)/\(fd_tree P).scope=fS (cB TB 29) 3/\(fd_tree P).closure=[]/\(fd_tree P).globals=mainGlobals/\(fd_tree P).builtins=builtinsNs:=by
 refine⟨?_,?_,?_,?_,?_,?_,?_,?_,?_⟩<;>kernel_rfl
theorem mn_tree (P:Params):nsIn (kk P) bkN (Str.ofString "tree")=some (some (.ref 231)):=by kernel_rfl
noncomputable def fd_parents (P:Params):FuncData:=match (ob P 238).data with | .func fd=>fd | _=>default
theorem m_parents (P:Params):(kk P).lookup 238=some (ob P 238)/\(ob P 238).cls=.type "function"/\(ob P 238).data=.func (fd_parents P)/\codeIn (kk P) (fd_parents P).code (fd_parents P).qualname=true/\(fd_parents P).body=.stmts (fB (cB TB 29) 4)/\(fd_parents P).scope=fS (cB TB 29) 4/\(fd_parents P).closure=[]/\(fd_parents P).globals=mainGlobals/\(fd_parents P).builtins=builtinsNs:=by
 refine⟨?_,?_,?_,?_,?_,?_,?_,?_,?_⟩<;>kernel_rfl
theorem mn_parents (P:Params):nsIn (kk P) bkN (Str.ofString "parents")=some (some (.ref 238)):=by kernel_rfl
noncomputable def fd_put_down (P:Params):FuncData:=match (ob P 245).data with | .func fd=>fd | _=>default
theorem m_put_down (P:Params):(kk P).lookup 245=some (ob P 245)/\(ob P 245).cls=.type "function"/\(ob P 245).data=.func (fd_put_down P)/\codeIn (kk P) (fd_put_down P).code (fd_put_down P).qualname=true/\(fd_put_down P).body=.stmts (fB (cB TB 29) 5)/\(fd_put_down P).scope=fS (cB TB 29) 5/\(fd_put_down P).closure=[]/\(fd_put_down P).globals=mainGlobals/\(fd_put_down P).builtins=builtinsNs:=by
 refine⟨?_,?_,?_,?_,?_,?_,?_,?_,?_⟩<;>kernel_rfl
theorem mn_put_down (P:Params):nsIn (kk P) bkN (Str.ofString "put_down")=some (some (.ref 245)):=by kernel_rfl
noncomputable def fd_grow (P:Params):FuncData:=match (ob P 252).data with | .func fd=>fd | _=>default
theorem m_grow (P:Params):(kk P).lookup 252=some (ob P 252)/\(ob P 252).cls=.type "function"/\(ob P 252).data=.func (fd_grow P)/\codeIn (kk P) (fd_grow P).code (fd_grow P).qualname=true/\(fd_grow P).body=.stmts (fB (cB TB 29) 6)/\(fd_grow P).scope=fS (cB TB 29) 6/\(fd_grow P).closure=[]/\(fd_grow P).globals=mainGlobals/\(fd_grow P).builtins=builtinsNs:=by
 refine⟨?_,?_,?_,?_,?_,?_,?_,?_,?_⟩<;>kernel_rfl
theorem mn_grow (P:Params):nsIn (kk P) bkN (Str.ofString "grow")=some (some (.ref 252)):=by kernel_rfl
noncomputable def fd_merge (P:Params):FuncData:=match (ob P 259).data with | .func fd=>fd | _=>default
theorem m_merge (P:Params):(kk P).lookup 259=some (ob P 259)/\(ob P 259).cls=.type "function"/\(ob P 259).data=.func (fd_merge P)/\codeIn (kk P) (fd_merge P).code (fd_merge P).qualname=true/\(fd_merge P).body=.stmts (fB (cB TB 29) 7)/\(fd_merge P).scope=fS (cB TB 29) 7/\(fd_merge P).closure=[]/\(fd_merge P).globals=mainGlobals/\(fd_merge P).builtins=builtinsNs:=by
 refine⟨?_,?_,?_,?_,?_,?_,?_,?_,?_⟩<;>kernel_rfl
theorem mn_merge (P:Params):nsIn (kk P) bkN (Str.ofString "merge")=some (some (.ref 259)):=by kernel_rfl
noncomputable def fd_elders (P:Params):FuncData:=match (ob P 266).data with | .func fd=>fd | _=>default
theorem m_elders (P:Params):(kk P).lookup 266=some (ob P 266)/\(ob P 266).cls=.type "function"/\(ob P 266).data=.func (fd_elders P)/\codeIn (kk P) (fd_elders P).code (fd_elders P).qualname=true/\(fd_elders P).body=.stmts (fB (cB TB 29) 8)/\(fd_elders P).scope=fS (cB TB 29) 8/\(fd_elders P).closure=[]/\(fd_elders P).globals=mainGlobals/\(fd_elders P).builtins=builtinsNs:=by
 refine⟨?_,?_,?_,?_,?_,?_,?_,?_,?_⟩<;>kernel_rfl
theorem mn_elders (P:Params):nsIn (kk P) bkN (Str.ofString "elders")=some (some (.ref 266)):=by kernel_rfl
noncomputable def fd_nearest (P:Params):FuncData:=match (ob P 271).data with | .func fd=>fd | _=>default
theorem m_nearest (P:Params):(kk P).lookup 271=some (ob P 271)/\(ob P 271).cls=.type "function"/\(ob P 271).data=.func (fd_nearest P)/\codeIn (kk P) (fd_nearest P).code (fd_nearest P).qualname=true/\(fd_nearest P).body=.stmts (fB (cB TB 29) 9)/\(fd_nearest P).scope=fS (cB TB 29) 9/\(fd_nearest P).closure=[]/\(fd_nearest P).globals=mainGlobals/\(fd_nearest P).builtins=builtinsNs:=by
 refine⟨?_,?_,?_,?_,?_,?_,?_,?_,?_⟩<;>kernel_rfl
theorem mn_nearest (P:Params):nsIn (kk P) bkN (Str.ofString "nearest")=some (some (.ref 271)):=by kernel_rfl
noncomputable def fd_road (P:Params):FuncData:=match (ob P 278).data with | .func fd=>fd | _=>default
theorem m_road (P:Params):(kk P).lookup 278=some (ob P 278)/\(ob P 278).cls=.type "function"/\(ob P 278).data=.func (fd_road P)/\codeIn (kk P) (fd_road P).code (fd_road P).qualname=true/\(fd_road P).body=.stmts (fB (cB TB 29) 10)/\(fd_road P).scope=fS (cB TB 29) 10/\(fd_road P).closure=[]/\(fd_road P).globals=mainGlobals/\(fd_road P).builtins=builtinsNs:=by
 refine⟨?_,?_,?_,?_,?_,?_,?_,?_,?_⟩<;>kernel_rfl
theorem mn_road (P:Params):nsIn (kk P) bkN (Str.ofString "road")=some (some (.ref 278)):=by kernel_rfl
noncomputable def fd_story (P:Params):FuncData:=match (ob P 285).data with | .func fd=>fd | _=>default
theorem m_story (P:Params):(kk P).lookup 285=some (ob P 285)/\(ob P 285).cls=.type "function"/\(ob P 285).data=.func (fd_story P)/\codeIn (kk P) (fd_story P).code (fd_story P).qualname=true/\(fd_story P).body=.stmts (fB (cB TB 29) 11)/\(fd_story P).scope=fS (cB TB 29) 11/\(fd_story P).closure=[]/\(fd_story P).globals=mainGlobals/\(fd_story P).builtins=builtinsNs:=by
 refine⟨?_,?_,?_,?_,?_,?_,?_,?_,?_⟩<;>kernel_rfl
theorem mn_story (P:Params):nsIn (kk P) bkN (Str.ofString "story")=some (some (.ref 285)):=by kernel_rfl
theorem openSeen_q:@openSeen=@PySem.W.Fast.tw4187177175401517315:=PySem.W.Fast.te4187177175401517315
theorem imods_q:importedModules=PySem.W.Fast.tw5923862056798008813:=PySem.W.Fast.te5923862056798008813
abbrev rw:OpenLaw:=PySem.Challenge.rw_uf050007_11
abbrev Xt:Shared->Bool:=fun s=>xlAt vw [] s&&recOk (RowW.records (OpenRow.toRowW rw.row)) s
abbrev HK:Hook:=kHook kk ks (fun _=>by kernel_rfl)
theorem l_1:∀w:World,(fun os=>(staticsOk (importedModules pw.main.body) (boot_heap w.params) (hp_f w.params)&&namesBound pw (hp_f w.params)&&gensDone (sl_f w os)&&laidKept (boot_heap w.params) (hp_f w.params)))=fun _:OsState=>true:=fun w=>by rw[imods_q];kernel_rfl
theorem l_2:∀w:World,(fun os=>openSeen vw [] (importedModules pw.main.body) Xt true (sl_f w os))=fun _:OsState=>openGood vw []:=fun w=>by rw[imods_q,openSeen_q];kernel_rfl
theorem l_3:∀w:World,(fun os=>HK.obs (sl_f w os))=fun _:OsState=>HK.val w:=fun w=>by kernel_rfl
theorem left:LeftO pw vw [] Xt HK.obs HK.val NN:=
 LeftO.of_pieces (p:=pw) (q:=vw) (loose:=[]) (Xt:=Xt) (Yf:=HK.obs) (Ya:=HK.val) (N:=NN) (g0:=true) (H₀:=boot_heap) (H₁:=hp_f) q_open q_size q_run q_le
  fun w=>funext fun os=>looks_pair (congrFun (l_1 w) os) (looks_pair (congrFun (l_2 w) os) (congrFun (l_3 w) os))
theorem said:rw.wellSaid=true:=by
 unfold OpenLaw.wellSaid OpenRow.wellSaid OpenRow.partSaid looksOpen
 repeat' (with_reducible refine look_both ?_ ?_)
 all_goals decide +kernel
theorem hd {d:DefRec} {kwd:List (Str×Expr)} (hdef:defOf vw rw.row.name=some (d,kwd)) (hp:rw.row.prog.theDef rw.row.name=some (d.params,d.body,d.scope)) (hk:kwWritten? d.params.kwonlyargs d.params.kw_defaults=some kwd)
  (call:WalkO vw [] (XL vw []) HK.says rw.row.toRowW d kwd fun f vs=>PySem.call f vs):rw.Holds:=
 holds_law said fun said'=>
  holds_open (q:=vw) (loose:=[]) (Xt:=Xt) (XP:=XL vw []) (Yf:=HK.obs) (Ya:=HK.val) (YP:=HK.says) (N:=NN) left HK.of HK.keeps (fun s e=>xl_of s (Bool.and_eq_true_iff.mp e).1) XL.keeps hdef hp hk
   (fun s e=>recFacts_of (Bool.and_eq_true_iff.mp e).2) (by rfl) said' (by decide +kernel) ⟨rfl,rfl,rfl,rfl,rfl,by decide +kernel⟩ (by w_witness2) call
end
end Hd
set_option tactic.hygienic false
noncomputable def oo:List String:=["NoPath","NoFile","InTheWay","NoClash","Clashed","SameVersion"]
noncomputable def nJ:List String:=["RoadError","NoPath","NoFile","InTheWay","NoClash","Clashed","SameVersion"]
noncomputable def oi:Str:=Str.ofString "no/such/path/here"
noncomputable def AB:Str:=Str.ofString "a//b"
noncomputable def dA:Str:=Str.ofString "abcdefghijklmnopqrstuvwxyzABCDEFGHIJKLMNOPQRSTUVWXYZ0123456789.-_"
noncomputable def bA (k:Int):Str:=⟨#[(cl dA).getD (k % 65).toNat 0]⟩
noncomputable def ag (kvs:List (Str×V)):List Str:=kvs.map (·.1)
noncomputable def cW:Option Str->V
 |Option.none=>.none
 |some y=>.str y
abbrev Fi:=Str->Option Str
abbrev Pi:=Str->Option (Option Str)
noncomputable def bF {α:Type} (f:Str->Option α) (x:Str) (o:Option α):Str->Option α:=fun z=>if z=x then o else f z
structure Is (K:List Str) (F:Str->Option V) (kvs:List (Str×V)):Prop where
 sub:∀x∈ag kvs,x∈K
 nd:(ag kvs).Nodup
 eq:∀x,aT kvs x=F x
inductive DAt (K:List Str) (F:Str->Option V) (a:Addr) (σ:ae):Prop
 |mk (kvs:List (Str×V)) (ep:Nat) (h:σ a=some (.dict kvs ep)) (i:Is K F kvs):DAt K F a σ
noncomputable def fV (f:Fi):Str->Option V:=fun x=>(f x).map V.str
noncomputable def pV (p:Pi):Str->Option V:=fun x=>(p x).map cW
structure Kp (K:List Str):Prop where
 few:K.length<=1000
 len:∀x∈K,x.length<=300
 here:oi∉K
noncomputable def f9 (w m t:Option Str):Option Str:=
 if m=t then (if m=w then Option.none else some (Str.ofString "alike")) else if t=w then some (Str.ofString "one") else if m=w then some (Str.ofString "other") else some (Str.ofString "clash")
noncomputable def iJ (w m t:Option Str):Bool:=!decide (m=t)&&!decide (m=w)&&!decide (t=w)
noncomputable def sq (w m t:Option Str):Option Str:=if iJ w m t then Option.none else if m=w then t else m
noncomputable def fp (f g h:Fi) (x:Str):Bool:=iJ (f x) (g x) (h x)
noncomputable def st (f g h:Fi) (x:Str):Option Str:=sq (f x) (g x) (h x)
noncomputable def qL (f g h:Fi) (x:Str):Option V:=(f9 (f x) (g x) (h x)).map fun u=>V.tup [.str x,.str u]
noncomputable def Ab (y x:Str):Prop:=Txt.startswith x (y++Str.ofString "/")=true
noncomputable def free (f:Fi) (x:Str):Prop:=∀y,f y≠Option.none->¬Ab x y/\¬Ab y x
structure Al (f g h:Fi) (ks:List Str):Prop where
 nd:ks.Nodup
 mem:∀x,x∈ks↔f x≠Option.none\/g x≠Option.none\/h x≠Option.none
noncomputable def cu (f g h:Fi) (p:Pi) (x:Str):Option Str:=match p x with | some o=>o | Option.none=>st f g h x
noncomputable def c9 (f g h:Fi) (p:Pi) (x:Str):Prop:=fp f g h x=true/\p x=Option.none\/cu f g h p x≠Option.none/\¬free (cu f g h p) x
noncomputable def eW:Pi:=fun _=>Option.none
structure D3 (K:List Str) (a b c:Addr) (f g h:Fi) (σ:ae):Prop where
 ta:DAt K (fV f) a σ
 tb:DAt K (fV g) b σ
 tc:DAt K (fV h) c σ
 un:Kp K
noncomputable def sX (c:String) (σ:ae) (X:String->ae->Prop):Prop:=∀σ',Grow σ σ'->X c σ'
noncomputable def kZ (K:List Str) (F:Str->Option V) (σ:ae) (Q:V->ae->Prop):Prop:=∀a σ',Grow σ σ'->σ a=Option.none->DAt K F a σ'->Q (.ref a) σ'
inductive Dd where
 |put (x y:Str)
 |cut (x:Str)
noncomputable def Dd.x:Dd->Str
 |.put x _=>x
 |.cut x=>x
noncomputable def Dd.v:Dd->V
 |.put x y=>.tup [.str (Str.ofString "put"),.str x,.str y]
 |.cut x=>.tup [.str (Str.ofString "cut"),.str x]
open Classical in
noncomputable def km (f:Fi):Dd->Except String Fi
 |.put x y=>if x=AB then .error "NoPath" else if free f x then .ok (bF f x (some y)) else .error "InTheWay"
 |.cut x=>if x=AB then .error "NoPath" else if f x=Option.none then .error "NoFile" else .ok (bF f x Option.none)
noncomputable def aU:Fi->List Dd->Except String Fi
 |f,[]=>.ok f
 |f,d::r=>match km f d with
  |.ok g=>aU g r
  |.error c=>.error c
structure okPart (x:Str):Prop where
 dot:x≠Str.ofString "."
 dots:x≠Str.ofString ".."
 lo:1<=x.length
 hi:x.length<=12
 sg:∀c∈cl x,Txt.contains dA ⟨#[c]⟩=true
structure Good (x:Str):Prop where
 parts:∃ps:List Str,x=Str.join (Str.ofString "/") ps/\ps≠[]/\ps.length<=8/\∀p∈ps,okPart p
 here:x≠oi
noncomputable def OkD (d:Dd):Prop:=d.x=AB\/Good d.x
noncomputable def bN (s:Int):Int:=if s / 65 % 3=1 then 1+s / 195 % 12 else 1
structure NS (s:Int) (x:Str):Prop where
 ok:okPart x
 ne2:s / 5 % 4≠2->(x.length:Int)=bN s\/x=Str.ofString "0x"
 eq2:s / 5 % 4=2->x≠Str.ofString "no"
noncomputable def Keep (S:List Addr) (σ σ':ae):Prop:=∀b o,σ b=some o->b∉S->σ' b=some o
noncomputable def aJ (ps:List (List Int)):List V:=ps.map fun p=>.tup (p.map .int)
structure Ord (ps:List (List Int)):Prop where
 two:∀(k:Nat) l,ps[k]?=some l->l.length<=2
 lt:∀(k:Nat) l,ps[k]?=some l->∀p∈l,0<=p/\p < (k:Int)
 some:∀(k:Nat) l,ps[k]?=Option.some l->0 < k->l≠[]
 few:ps.length<=200
 pos:0 < ps.length
inductive Trs (K:List Str) (t:Addr) (fs:List Fi) (σ:ae):Prop
 |mk (ads:List Addr) (h:σ t=some (.list (ads.map .ref))) (len:ads.length=fs.length) (at_:∀(i:Nat) d f,ads[i]?=some d->fs[i]?=some f->DAt K (fV f) d σ):Trs K t fs σ
structure BookAt (K:List Str) (b t mo:Addr) (fs:List Fi) (ps:List (List Int)) (σ:ae):Prop where
 obj:∃dx,σ b=some (.inst dx)/\σ dx=some (.ns [("made_of",.ref mo),("trees",.ref t)])
 tr:Trs K t fs σ
 md:σ mo=some (.list (aJ ps))
 ne:t≠mo
 len:ps.length=fs.length
 ord:Ord ps
 un:Kp K
noncomputable def Sep (t:Addr) (σ:ae) (d:Addr):Prop:=∀xs,σ t=some (.list xs)->V.ref d∉xs
structure Side (K:List Str) (b t mo u w:Addr) (fs:List Fi) (ps:List (List Int)) (σ:ae):Prop where
 bk:BookAt K b t mo fs ps σ
 tr:Trs K u fs σ
 md:σ w=some (.list (aJ ps))
 nd:[t,mo,u,w].Nodup
inductive Anc (ps:List (List Int)):Int->Int->Prop
 |self (n:Int):Anc ps n n
 |up {n p x:Int} {l:List Int}:ps[n.toNat]?=some l->p∈l->Anc ps p x->Anc ps n x
structure Near (ps:List (List Int)) (n m M:Int):Prop where
 a1:Anc ps n M
 a2:Anc ps m M
 max:∀z,Anc ps n z->Anc ps m z->z<=M
structure More (n:Nat) (K K':List Str):Prop where
 sub:∀x∈K,x∈K'
 len:K'.length<=K.length+n
inductive sp_is_part (ns:List Int) (vs:List V) (σ:ae) (Q:V->ae->Prop):Prop
 |mk (x:_) (b:_) (h1:vs=[.str x]) (h2:(x.length=0/\b=false\/okPart x/\b=true)) (h3:Q (.bool b) σ):sp_is_part ns vs σ Q
inductive sp_is_path (ns:List Int) (vs:List V) (σ:ae) (Q:V->ae->Prop):Prop
 |mk (x:_) (b:_) (h1:vs=[.str x]) (h2:(x=AB/\b=false\/Good x/\b=true)) (h3:∀σ',Grow σ σ'->Q (.bool b) σ'):sp_is_path ns vs σ Q
inductive sp_above (ns:List Int) (vs:List V) (σ:ae) (Q:V->ae->Prop):Prop
 |mk (x:_) (h1:vs=[.str x]) (h2:x.length<=300) (h3:∀us:List Str,(∀y,y∈us↔Ab y x)->us.length<=301->e8 (us.map .str) σ Q):sp_above ns vs σ Q
inductive sp_is_beneath (ns:List Int) (vs:List V) (σ:ae) (Q:V->ae->Prop):Prop
 |mk (x:_) (y:_) (h1:vs=[.str x,.str y]) (h2:y.length<=1000) (h3:Q (.bool (Txt.startswith x (y++Str.ofString "/"))) σ):sp_is_beneath ns vs σ Q
inductive sp_all_paths (ns:List Int) (vs:List V) (σ:ae) (Q:V->ae->Prop):Prop
 |mk (K:_) (a:_) (b:_) (c:_) (f:_) (g:_) (h:_) (h1:vs=[.ref a,.ref b,.ref c]) (h2:D3 K a b c f g h σ) (h3:∀ks,Al f g h ks->e8 (ks.map .str) σ Q):sp_all_paths ns vs σ Q
inductive sp_marks (ns:List Int) (vs:List V) (σ:ae) (Q:V->ae->Prop):Prop
 |mk (K:_) (a:_) (b:_) (c:_) (f:_) (g:_) (h:_) (h1:vs=[.ref a,.ref b,.ref c]) (h2:D3 K a b c f g h σ) (h3:∀ks,Al f g h ks->e8 (ks.filterMap (qL f g h)) σ Q):sp_marks ns vs σ Q
inductive sp_clashing (ns:List Int) (vs:List V) (σ:ae) (Q:V->ae->Prop):Prop
 |mk (K:_) (a:_) (b:_) (c:_) (f:_) (g:_) (h:_) (h1:vs=[.ref a,.ref b,.ref c]) (h2:D3 K a b c f g h σ) (h3:∀cs:List Str,(∀x,x∈cs↔fp f g h x=true)->cs.length<=1000->e8 (cs.map .str) σ Q):sp_clashing ns vs σ Q
inductive sp_standing (ns:List Int) (vs:List V) (σ:ae) (Q:V->ae->Prop):Prop
 |mk (K:_) (a:_) (b:_) (c:_) (f:_) (g:_) (h:_) (h1:vs=[.ref a,.ref b,.ref c]) (h2:D3 K a b c f g h σ) (h3:kZ K (fV (st f g h)) σ Q):sp_standing ns vs σ Q
inductive sp_clashes (ns:List Int) (vs:List V) (σ:ae) (Q:V->ae->Prop):Prop
 |mk (K:_) (a:_) (b:_) (c:_) (f:_) (g:_) (h:_) (h1:vs=[.ref a,.ref b,.ref c]) (h2:D3 K a b c f g h σ) (h3:∀fs:List (List Str),(∀x,(∃l∈fs,x∈l)↔c9 f g h eW x)->e8 (fs.map im) σ Q):sp_clashes ns vs σ Q
inductive sp_joined (ns:List Int) (vs:List V) (σ:ae) (Q:V->ae->Prop) (X:String->ae->Prop):Prop
 |mk (K:_) (a:_) (b:_) (c:_) (f:_) (g:_) (h:_) (p:_) (L:_) (pk:_) (h1:vs=[.ref a,.ref b,.ref c,.ref p]) (h2:D3 K a b c f g h σ) (h3:DAt L (pV pk) p σ) (h4:L.length<=1001) (h5:((∃x,pk x≠Option.none/\¬c9 f g h eW x)->sX "NoClash" σ X)) (h6:((∀x,pk x≠Option.none->c9 f g h eW x)->(∃x,c9 f g h pk x)->sX "Clashed" σ X)) (h7:((∀x,pk x≠Option.none->c9 f g h eW x)->(∀x,¬c9 f g h pk x)->kZ K (fV (cu f g h pk)) σ Q)):sp_joined ns vs σ Q X
inductive sp_done (ns:List Int) (vs:List V) (σ:ae) (Q:V->ae->Prop) (X:String->ae->Prop):Prop
 |mk (K:_) (a:_) (f:_) (d:_) (h1:vs=[.ref a,Dd.v d]) (h2:DAt K (fV f) a σ) (h3:K.length<=2000) (h4:(∀x∈K,x.length<=300)) (h5:OkD d) (h6:(∀c,km f d=.error c->sX c σ X)) (h7:(∀g,km f d=.ok g->kZ (d.x::K) (fV g) σ Q)):sp_done ns vs σ Q X
inductive sp_changed (ns:List Int) (vs:List V) (σ:ae) (Q:V->ae->Prop) (X:String->ae->Prop):Prop
 |mk (K:_) (a:_) (L:_) (f:_) (dl:_) (h1:vs=[.ref a,.ref L]) (h2:DAt K (fV f) a σ) (h3:σ L=some (.list (dl.map Dd.v))) (h4:K.length+dl.length<=1000) (h5:(∀x∈K,x.length<=300)) (h6:(∀d∈dl,OkD d)) (h7:(∀c,aU f dl=.error c->sX c σ X)) (h8:(∀g,aU f dl=.ok g->kZ ((dl.map Dd.x).reverse++K) (fV g) σ Q)):sp_changed ns vs σ Q X
inductive sp___init__ (ns:List Int) (vs:List V) (σ:ae) (Q:V->ae->Prop):Prop
 |mk (a:_) (dx:_) (h1:vs=[.ref a]) (h2:σ a=some (.inst dx)) (h3:σ dx=some (.ns [])) (h4:∀t mo σ',Keep [dx] σ σ'->BookAt [] a t mo [fun _=>Option.none] [[]] σ'->σ t=Option.none->σ mo=Option.none->Q .none σ'):sp___init__ ns vs σ Q
inductive sp_need (ns:List Int) (vs:List V) (σ:ae) (Q:V->ae->Prop):Prop
 |mk (K:_) (b:_) (t:_) (mo:_) (fs:_) (ps:_) (n:_) (h1:vs=[.ref b,.int n]) (h2:BookAt K b t mo fs ps σ) (h3:0<=n) (h4:n < fs.length) (h5:Q .none σ):sp_need ns vs σ Q
inductive sp_many (ns:List Int) (vs:List V) (σ:ae) (Q:V->ae->Prop):Prop
 |mk (K:_) (b:_) (t:_) (mo:_) (fs:_) (ps:_) (h1:vs=[.ref b]) (h2:BookAt K b t mo fs ps σ) (h3:Q (.int fs.length) σ):sp_many ns vs σ Q
inductive sp_tree (ns:List Int) (vs:List V) (σ:ae) (Q:V->ae->Prop):Prop
 |mk (K:_) (b:_) (t:_) (mo:_) (fs:_) (ps:_) (n:_) (f:_) (h1:vs=[.ref b,.int n]) (h2:BookAt K b t mo fs ps σ) (h3:0<=n) (h4:fs[n.toNat]?=some f) (h5:kZ K (fV f) σ Q):sp_tree ns vs σ Q
inductive sp_parents (ns:List Int) (vs:List V) (σ:ae) (Q:V->ae->Prop):Prop
 |mk (K:_) (b:_) (t:_) (mo:_) (fs:_) (ps:_) (n:_) (l:_) (h1:vs=[.ref b,.int n]) (h2:BookAt K b t mo fs ps σ) (h3:0<=n) (h4:ps[n.toNat]?=some l) (h5:Q (.tup (l.map .int)) σ):sp_parents ns vs σ Q
inductive sp_put_down (ns:List Int) (vs:List V) (σ:ae) (Q:V->ae->Prop):Prop
 |mk (K:_) (b:_) (t:_) (mo:_) (fs:_) (ps:_) (d:_) (f:_) (l:_) (h1:vs=[.ref b,.ref d,.tup (l.map .int)]) (h2:BookAt K b t mo fs ps σ) (h3:DAt K (fV f) d σ) (h4:fs.length < 200) (h5:l.length<=2) (h6:l≠[]) (h7:(∀p∈l,0<=p/\p < (fs.length:Int))) (h8:∀σ',Keep [t,mo] σ σ'->BookAt K b t mo (fs++[f]) (ps++[l]) σ'->(∀z,z≠d->Sep t σ z->Sep t σ' z)->Q (.int fs.length) σ'):sp_put_down ns vs σ Q
inductive spX_grow (ns:List Int) (vs:List V) (σ:ae) (Q:V->ae->Prop) (X:String->ae->Prop):Prop
 |mk (K:_) (K':_) (b:_) (t:_) (mo:_) (fs:_) (ps:_) (n:_) (f:_) (L:_) (dl:_) (h1:vs=[.ref b,.int n,.ref L]) (h2:BookAt K b t mo fs ps σ) (h3:0<=n) (h4:fs[n.toNat]?=some f) (h5:σ L=some (.list (dl.map Dd.v))) (h6:(∀d∈dl,OkD d)) (h7:K'=(dl.map Dd.x).reverse++K) (h8:K'.length<=1000) (h9:fs.length < 200) (h10:(∀c,aU f dl=.error c->sX c σ X)) (h11:(∀g,aU f dl=.ok g->∀σ',Keep [t,mo] σ σ'->BookAt K' b t mo (fs++[g]) (ps++[[n]]) σ'->Q (.int fs.length) σ')):spX_grow ns vs σ Q X
inductive spX_merge (ns:List Int) (vs:List V) (σ:ae) (Q:V->ae->Prop) (X:String->ae->Prop):Prop
 |mk (K:_) (b:_) (t:_) (mo:_) (fs:_) (ps:_) (n:_) (m:_) (p:_) (L:_) (pk:_) (M:_) (f:_) (g:_) (h:_) (h1:vs=[.ref b,.int n,.int m,.ref p]) (h2:BookAt K b t mo fs ps σ) (h3:0<=n) (h4:0<=m) (h5:DAt L (pV pk) p σ) (h6:L.length<=1001) (h7:Near ps n m M) (h8:0<=M) (h9:fs[M.toNat]?=some f) (h10:fs[n.toNat]?=some g) (h11:fs[m.toNat]?=some h) (h12:fs.length < 200) (h13:(n=m->sX "SameVersion" σ X)) (h14:(n≠m->(∃x,pk x≠Option.none/\¬c9 f g h eW x)->sX "NoClash" σ X)) (h15:(n≠m->(∀x,pk x≠Option.none->c9 f g h eW x)->(∃x,c9 f g h pk x)->sX "Clashed" σ X)) (h16:(n≠m->(∀x,pk x≠Option.none->c9 f g h eW x)->(∀x,¬c9 f g h pk x)->∀σ',Keep [t,mo] σ σ'->BookAt K b t mo (fs++[cu f g h pk]) (ps++[[min n m,max n m]]) σ'->(∀z,σ z≠Option.none->Sep t σ z->Sep t σ' z)->Q (.int fs.length) σ')):spX_merge ns vs σ Q X
inductive sp_elders (ns:List Int) (vs:List V) (σ:ae) (Q:V->ae->Prop):Prop
 |mk (K:_) (b:_) (t:_) (mo:_) (fs:_) (ps:_) (n:_) (h1:vs=[.ref b,.int n]) (h2:BookAt K b t mo fs ps σ) (h3:0<=n) (h4:n < fs.length) (h5:∀xs:List Int,(∀x,x∈xs↔Anc ps n x)->xs.length<=1000->e8 (xs.map .int) σ Q):sp_elders ns vs σ Q
inductive sp_nearest (ns:List Int) (vs:List V) (σ:ae) (Q:V->ae->Prop):Prop
 |mk (K:_) (b:_) (t:_) (mo:_) (fs:_) (ps:_) (n:_) (m:_) (h1:vs=[.ref b,.int n,.int m]) (h2:BookAt K b t mo fs ps σ) (h3:0<=n) (h4:n < fs.length) (h5:0<=m) (h6:m < fs.length) (h7:∀M σ',Grow σ σ'->Near ps n m M->Q (.int M) σ'):sp_nearest ns vs σ Q
inductive sp__law_sign_by (ns:List Int) (vs:List V) (σ:ae) (Q:V->ae->Prop):Prop
 |mk (k:_) (h1:vs=[.int k]) (h2:Q (.str (bA k)) σ):sp__law_sign_by ns vs σ Q
inductive sp__law_name_by (ns:List Int) (vs:List V) (σ:ae) (Q:V->ae->Prop):Prop
 |mk (c:_) (s:_) (h1:vs=[.int c,.int s]) (h2:∀(x:Str) σ',Grow σ σ'->NS s x->Q (.str x) σ'):sp__law_name_by ns vs σ Q
inductive sp__law_path_by (ns:List Int) (vs:List V) (σ:ae) (Q:V->ae->Prop):Prop
 |mk (c:_) (s:_) (h1:vs=[.int c,.int s]) (h2:∀(x:Str) σ',Grow σ σ'->Good x->Q (.str x) σ'):sp__law_path_by ns vs σ Q
inductive sp__law_line_by (ns:List Int) (vs:List V) (σ:ae) (Q:V->ae->Prop):Prop
 |mk (c:_) (s:_) (h1:vs=[.int c,.int s]) (h2:∀(x:Str) σ',Grow σ σ'->Q (.str x) σ'):sp__law_line_by ns vs σ Q
inductive sp__law_is_free (ns:List Int) (vs:List V) (σ:ae) (Q:V->ae->Prop):Prop
 |mk (K:_) (a:_) (f:_) (x:_) (h1:vs=[.ref a,.str x]) (h2:DAt K (fV f) a σ) (h3:(∀y∈K,y.length<=300)) (h4:x.length<=300) (h5:(free f x->Q (.bool true) σ)) (h6:(¬free f x->Q (.bool false) σ)):sp__law_is_free ns vs σ Q
inductive sp__law_word_of (ns:List Int) (vs:List V) (σ:ae) (Q:V->ae->Prop):Prop
 |mk (K:_) (a:_) (L:_) (f:_) (dl:_) (h1:vs=[.ref a,.ref L]) (h2:DAt K (fV f) a σ) (h3:σ L=some (.list (dl.map Dd.v))) (h4:K.length+dl.length<=1000) (h5:(∀x∈K,x.length<=300)) (h6:(∀d∈dl,OkD d)) (h7:(∀c,aU f dl=.error c->∀σ',Grow σ σ'->Q (.str (Str.ofString c)) σ')) (h8:(∀g,aU f dl=.ok g->kZ ((dl.map Dd.x).reverse++K) (fV g) σ Q)):sp__law_word_of ns vs σ Q
inductive sp__law_deeds_by (ns:List Int) (vs:List V) (σ:ae) (Q:V->ae->Prop):Prop
 |mk (K:_) (c:_) (a:_) (s:_) (f:_) (h1:vs=[.int c,.ref a,.int s]) (h2:DAt K (fV f) a σ) (h3:K.length<=900) (h4:(∀x∈K,x.length<=300)) (h5:∀dl:List Dd,dl.length<=9->(∀d∈dl,OkD d)->e8 (dl.map Dd.v) σ Q):sp__law_deeds_by ns vs σ Q
inductive sp__law_joined_by (ns:List Int) (vs:List V) (σ:ae) (Q:V->ae->Prop):Prop
 |mk (K:_) (a:_) (b:_) (c:_) (f:_) (g:_) (h:_) (p:_) (pk:_) (h1:vs=[.ref a,.ref b,.ref c,.ref p]) (h2:D3 K a b c f g h σ) (h3:DAt K (pV pk) p σ) (h4:(∀x,pk x≠Option.none->c9 f g h eW x)) (h5:∀(d l:Addr) (xs:List Str) σ',Grow σ σ'->σ d=Option.none->DAt K (fV (cu f g h pk)) d σ'->σ' l=some (.list (xs.map .str))->(∀x,x∈xs↔c9 f g h pk x)->xs.length<=2000->Q (.tup [.ref d,.ref l]) σ'):sp__law_joined_by ns vs σ Q
inductive sp__law_nearest_by (ns:List Int) (vs:List V) (σ:ae) (Q:V->ae->Prop):Prop
 |mk (w:_) (ps:_) (n:_) (m:_) (h1:vs=[.ref w,.int n,.int m]) (h2:σ w=some (.list (aJ ps))) (h3:Ord ps) (h4:0<=n) (h5:n < ps.length) (h6:0<=m) (h7:m < ps.length) (h8:∀M σ',Grow σ σ'->Near ps n m M->0<=M->M < ps.length->Q (.int M) σ'):sp__law_nearest_by ns vs σ Q
inductive sp__law_grew (ns:List Int) (vs:List V) (σ:ae) (Q:V->ae->Prop) (d9:String->ae->Prop):Prop
 |mk (K:_) (K':_) (b:_) (t:_) (mo:_) (fs:_) (ps:_) (n:_) (f:_) (L:_) (dl:_) (h1:vs=[.ref b,.int n,.ref L]) (h2:BookAt K b t mo fs ps σ) (h3:0<=n) (h4:fs[n.toNat]?=some f) (h5:σ L=some (.list (dl.map Dd.v))) (h6:(∀d∈dl,OkD d)) (h7:K'=(dl.map Dd.x).reverse++K) (h8:K'.length<=1000) (h9:fs.length < 200) (h10:(∀c,aU f dl=.error c->∀σ',Grow σ σ'->Q (.str (Str.ofString c)) σ')) (h11:(∀g,aU f dl=.ok g->∀σ',Keep [t,mo] σ σ'->BookAt K' b t mo (fs++[g]) (ps++[[n]]) σ'->Q (.int fs.length) σ')):sp__law_grew ns vs σ Q d9
inductive sp__law_joined (ns:List Int) (vs:List V) (σ:ae) (Q:V->ae->Prop) (d9:String->ae->Prop):Prop
 |mk (K:_) (b:_) (t:_) (mo:_) (fs:_) (ps:_) (n:_) (m:_) (p:_) (L:_) (pk:_) (M:_) (f:_) (g:_) (h:_) (h1:vs=[.ref b,.int n,.int m,.ref p]) (h2:BookAt K b t mo fs ps σ) (h3:0<=n) (h4:0<=m) (h5:DAt L (pV pk) p σ) (h6:L.length<=1001) (h7:Near ps n m M) (h8:0<=M) (h9:fs[M.toNat]?=some f) (h10:fs[n.toNat]?=some g) (h11:fs[m.toNat]?=some h) (h12:fs.length < 200) (h13:(n=m->∀σ',Grow σ σ'->Q (.str (Str.ofString "SameVersion")) σ')) (h14:(n≠m->(∃x,pk x≠Option.none/\¬c9 f g h eW x)->∀σ',Grow σ σ'->Q (.str (Str.ofString "NoClash")) σ')) (h15:(n≠m->(∀x,pk x≠Option.none->c9 f g h eW x)->(∃x,c9 f g h pk x)->∀σ',Grow σ σ'->Q (.str (Str.ofString "Clashed")) σ')) (h16:(n≠m->(∀x,pk x≠Option.none->c9 f g h eW x)->(∀x,¬c9 f g h pk x)->∀σ',Keep [t,mo] σ σ'->BookAt K b t mo (fs++[cu f g h pk]) (ps++[[min n m,max n m]]) σ'->(∀z,σ z≠Option.none->Sep t σ z->Sep t σ' z)->Q (.int fs.length) σ')):sp__law_joined ns vs σ Q d9
inductive sp__law_reads (ns:List Int) (vs:List V) (σ:ae) (Q:V->ae->Prop):Prop
 |mk (K:_) (b:_) (t:_) (mo:_) (u:_) (w:_) (fs:_) (ps:_) (n:_) (h1:vs=[.ref b,.ref u,.ref w,.int n]) (h2:Side K b t mo u w fs ps σ) (h3:0<=n) (h4:n < fs.length) (h5:∀σ',Grow σ σ'->Q (.bool true) σ'):sp__law_reads ns vs σ Q
inductive sp__law_grows (ns:List Int) (vs:List V) (σ:ae) (Q:V->ae->Prop) (d9:String->ae->Prop):Prop
 |mk (K:_) (b:_) (t:_) (mo:_) (u:_) (w:_) (fs:_) (ps:_) (c:_) (s:_) (h1:vs=[.ref b,.ref u,.ref w,.int c,.int s]) (h2:Side K b t mo u w fs ps σ) (h3:K.length<=900) (h4:fs.length < 200) (h5:∀K' fs' ps' σ',Keep [t,mo,u,w] σ σ'->Side K' b t mo u w fs' ps' σ'->More 9 K K'->fs'.length<=fs.length+1->Q (.bool true) σ'):sp__law_grows ns vs σ Q d9
inductive sp__law_joins (ns:List Int) (vs:List V) (σ:ae) (Q:V->ae->Prop) (d9:String->ae->Prop):Prop
 |mk (K:_) (b:_) (t:_) (mo:_) (u:_) (w:_) (fs:_) (ps:_) (c:_) (s:_) (h1:vs=[.ref b,.ref u,.ref w,.int c,.int s]) (h2:Side K b t mo u w fs ps σ) (h3:K.length<=900) (h4:fs.length < 200) (h5:∀K' fs' ps' σ',Keep [t,mo,u,w] σ σ'->Side K' b t mo u w fs' ps' σ'->More 9 K K'->fs'.length<=fs.length+1->Q (.bool true) σ'):sp__law_joins ns vs σ Q d9
inductive sp__law_turn (ns:List Int) (vs:List V) (σ:ae) (Q:V->ae->Prop) (d9:String->ae->Prop):Prop
 |mk (K:_) (b:_) (t:_) (mo:_) (u:_) (w:_) (fs:_) (ps:_) (c:_) (s:_) (h1:vs=[.ref b,.ref u,.ref w,.int c,.int s]) (h2:Side K b t mo u w fs ps σ) (h3:K.length<=900) (h4:fs.length < 200) (h5:∀K' fs' ps' σ',Keep [t,mo,u,w] σ σ'->Side K' b t mo u w fs' ps' σ'->More 9 K K'->fs'.length<=fs.length+1->Q (.bool true) σ'):sp__law_turn ns vs σ Q d9
noncomputable def tn (_ns:List Int):bE:=oY
set_option maxHeartbeats 4000000
theorem m4 {x:Str} {i:Nat} {v:V} (h:(eV x)[i]?=some v):∃c,(cl x)[i]?=some c/\v=.str ⟨#[c]⟩:=by
 unfold eV at h
 rw[List.getElem?_map] at h
 obtain ⟨c,h1,rfl⟩:=Option.map_eq_some_iff.mp h
 exact⟨c,h1,rfl⟩
theorem jl:Txt.split AB (Str.ofString "/")=[Str.ofString "a",⟨#[]⟩,Str.ofString "b"]:=by decide +kernel
theorem tH:okPart (Str.ofString "a"):=⟨by decide +kernel,by decide +kernel,by decide +kernel,by decide +kernel,by decide +kernel⟩
theorem bg {xs:List Str} {i:Nat} {v:V} (h:(xs.map V.str)[i]?=some v):∃y,xs[i]?=some y/\v=.str y:=by
 rw[List.getElem?_map] at h
 obtain ⟨y,h1,rfl⟩:=Option.map_eq_some_iff.mp h
 exact⟨y,h1,rfl⟩
theorem okPart.fr {x:Str} (h:okPart x):Fr x:=fun hc=>absurd (h.sg _ hc) (by decide +kernel)
theorem dm (x y:Str):(x++y).length=x.length+y.length:=by rw[ck,bM,List.length_append,<-ck,<-ck]
theorem kF {n:Nat}:∀(l:List Str),(∀y∈l,y.length<=n)->(l.map (·.length)).sum<=l.length*n
 |[],_=>Nat.zero_le _
 |y::r,h=>by
  have h1:=h y (.head _)
  have h2:=kF r fun z hz=>h z (.tail _ hz)
  rw[List.map_cons,List.sum_cons,List.length_cons,Nat.succ_mul,Nat.add_comm]
  exact Nat.add_le_add h2 h1
theorem pY (c:Nat):∀l:List (List Nat),(jn c l).length<=(l.map List.length).sum+l.length
 |[]=>Nat.le_refl _
 |[x]=>by rw[List.map_cons,List.sum_cons];exact Nat.le_succ _
 |x::y::r=>by
  have:=pY c (y::r)
  rw[List.map_cons,List.sum_cons,List.length_cons,jn,List.length_append,List.length_cons,Nat.add_assoc,<-Nat.add_assoc]
  exact Nat.add_le_add_left (Nat.succ_le_succ this) _
theorem pX (l:List Str):(Str.join (Str.ofString "/") l).length<=(l.map (·.length)).sum+l.length:=by
 rw[ck,dI,cT]
 have:=pY 47 (l.map cl)
 rw[List.map_map,List.length_map] at this
 have e:l.map (List.length ∘ cl)=l.map (·.length):=List.map_congr_left fun x _=>(ck x).symm
 rwa [e] at this
theorem Good.len {x:Str} (h:Good x):x.length<=104:=by
 obtain ⟨ps,rfl,_,h2,h3⟩:=h.parts
 exact Nat.le_trans (pX ps) (Nat.le_trans (Nat.add_le_add_right (kF ps fun p hp=>(h3 p hp).hi) _) (by rw[<-Nat.mul_succ];exact Nat.mul_le_mul_right 13 h2))
theorem Good.ne {x:Str} (h:Good x):x≠AB:=by
 obtain ⟨ps,rfl,h1,_,h3⟩:=h.parts
 intro e
 have:=fF (fun p hp=>(h3 p hp).fr) h1
 rw[e,jl] at this
 have:=(h3 ⟨#[]⟩ (this▸.tail _ (.head _))).lo
 exact absurd this (by decide)
noncomputable def dz (x:Str):List Str:=(List.range ((Txt.split x (Str.ofString "/")).length-1)).map fun i=>Str.join (Str.ofString "/") ((Txt.split x (Str.ofString "/")).take (i+1))
theorem nh {x:Str} (n:Nat):(((Txt.split x (Str.ofString "/")).take n).map (·.length)).sum+((Txt.split x (Str.ofString "/")).take n).length<=x.length+1:=by
 have h:=PyProof.Rows.split_weight x (Str.ofString "/") (by rw[dI];decide)
 have key:∀(l:List Str) (n:Nat),((l.take n).map (·.length)).sum+(l.take n).length<=(l.map (·.length)).sum+l.length:=by
  intro l
  induction l with
  |nil=>intro n;simp
  |cons y r ih=>intro n;cases n with
   |zero=>simp
   |succ n=>have:=ih n;simp at this ⊢;omega
 exact Nat.le_trans (key _ n) h
theorem cA (x:Str):Txt.split x (Str.ofString "/")≠[]:=by
 have:=PyProof.Rows.split_pos x (Str.ofString "/")
 intro e;rw[e] at this;simp at this
theorem dH (x:Str):∀y∈Txt.split x (Str.ofString "/"),Fr y:=by
 intro y hy
 rw[dI] at hy
 exact StrLaws.split_free _ 47 y hy
theorem qY (y:Str) (i:Nat):(Txt.split y (Str.ofString "/")).take (i+1)≠[]:=by
 intro e
 rcases List.take_eq_nil_iff.mp e with h | h
 ·cases h
 ·exact cA y h
theorem og (x y:Str):x∈dz y↔Txt.startswith y (x++Str.ofString "/")=true:=by
 have e:=eR (dH x) (dH y) (cA x) (cA y)
 rw[StrLaws.join_split,StrLaws.join_split] at e
 rw[e,decide_eq_true_eq]
 have hx0:0 < (Txt.split x (Str.ofString "/")).length:=List.length_pos_iff.mpr (cA x)
 simp only[dz,List.mem_map,List.mem_range]
 constructor
 ·rintro ⟨i,hi,e⟩
  have h2:=gi (xs:=(Txt.split y (Str.ofString "/")).take (i+1)) (fun z hz=>dH y z (List.mem_of_mem_take hz)) (dH x) (qY y i) (cA x) (by rw[e,StrLaws.join_split])
  rw[<-h2,List.length_take,Nat.min_eq_left (by exact gY fun hg=>Or.elim (kG ((Txt.split y (Str.ofString "/")).length) (1)) (fun hs0=>lN [i,((Txt.split y (Str.ofString "/")).length-1),((Txt.split y (Str.ofString "/")).length)] 0x628c241986129061 rfl hi hg (Nat.le_of_eq hs0)) (fun hs0=>lN [i,((Txt.split y (Str.ofString "/")).length-1)] 0x4a129061 rfl hi (Nat.le_of_eq hs0)))]
  exact⟨by exact sK fun hg=>Or.elim (kG ((Txt.split y (Str.ofString "/")).length) (1)) (fun hs0=>lN [i,((Txt.split y (Str.ofString "/")).length-1),((Txt.split y (Str.ofString "/")).length)] 0x3146120cc129061 rfl hi hg (Nat.le_of_eq hs0)) (fun hs0=>lN [i,((Txt.split y (Str.ofString "/")).length-1)] 0x4a129061 rfl hi (Nat.le_of_eq hs0)),rfl⟩
 ·rintro ⟨h1,h2⟩
  refine⟨(Txt.split x (Str.ofString "/")).length-1,by exact sK fun hg=>lN [((Txt.split x (Str.ofString "/")).length),((Txt.split y (Str.ofString "/")).length),((Txt.split x (Str.ofString "/")).length-1),((Txt.split y (Str.ofString "/")).length-1)] 0x18e138ca12186129061 rfl h1 (fD (gY fun hg=>lN [((Txt.split x (Str.ofString "/")).length)] 0x42120c2400461 rfl hx0 hg)) (kH ((Txt.split y (Str.ofString "/")).length) (1)) hg,?_⟩
  rw[Nat.sub_add_cancel hx0,h2,StrLaws.join_split]
open Lean in
local macro_rules (kind:=Lean.Parser.Tactic.tacticTrivial) | s=>return (msx [] "'first '| 'exact rfl T:exact/ii null/i ? group/ii '| 'show HE _ _ _ Expr.Name _ _ null/ii E:app/ii _$ ~!HE.name # !HE.cell # !y5 # !y4 # !x8 # !y7 # !x7 # !y6 # null/iiiiiiii^ '| 'show HE _ _ _ Expr.Constant _ _ _ null/iii E:app/ii _$ ~!HE.str # !HE.int # !HE.bool # !HE.none # null/iiii^ '| 'show HE _ _ _ Expr.Call Expr.Name _ _ null/ii E:app/ii _ _ _ null/iiii E:app/ii _$ ~!HE.len # !vr # !Ai # !Aj # !y3 # !yV # !yX # !yY # !qI # !r5 # !uR # !r6 # !x5 # !x9 # !HE.new # null/iiiiiiiiiiiiiii^ '| 'show HE _ _ _ Expr.Call Expr.Attribute _ _ _ null/iii E:app/ii _ _ _ null/iiii E:app/ii _$ ~!xZ # !yZ # !vn # !HE.append # !HE.getD # !yW # !vq # !x4 # null/iiiiiiii^ '| 'show HE _ _ _ Expr.BinOp _ _ _ _ null/iiii E:app/ii _$ ~!Am zA null/i E:app/ii # !Am zu null/i E:app/ii # !Am zy null/i E:app/ii # !Am zz null/i E:app/ii # !Am yv null/i E:app/ii # null/iiiii^ '| 'show HE _ _ _ Expr.Compare _ _ _ _ null/iiii E:app/ii _$ ~!Ak AG null/i E:app/ii # !Ak zv Gl.ok & null/i E:app/ii null/i E:app/ii null/i E:app/ii # null/ii^ '| 'show HE _ _ _ Expr.ListComp _ _ _ _ null/iiii E:app/ii _$ ~!y8 '[ null/ '] term[_]/iii null/i E:app/ii # !y8 '[ '\"parts\" str/i null/i '] term[_]/iii null/i E:app/ii # !y8 '[ '\"_law_shift\" str/i ', '\"_law_k\" str/i ', '\"_law_way\" str/i null/iiiii '] term[_]/iii null/i E:app/ii # !y8 '[ '\"_law_cell\" str/i ', '\"_law_shift\" str/i null/iii '] term[_]/iii null/i E:app/ii # !y8 '[ '\"_law_shift\" str/i null/i '] term[_]/iii null/i E:app/ii # !y8 '[ '\"_law_some\" str/i ', '\"_law_shift\" str/i ', '\"_law_k\" str/i null/iiiii '] term[_]/iii null/i E:app/ii # !y8 '[ '\"_law_made\" str/i null/i '] term[_]/iii null/i E:app/ii # !y8 '[ '\"_law_places\" str/i null/i '] term[_]/iii null/i E:app/ii # !y8 '[ '\"_law_one\" str/i ', '\"_law_other\" str/i null/iii '] term[_]/iii null/i E:app/ii # !y8 '[ '\"_law_trees\" str/i null/i '] term[_]/iii null/i E:app/ii # !y8 '[ '\"mine\" str/i null/i '] term[_]/iii null/i E:app/ii # null/iiiiiiiiiii^ '| 'show HE _ _ _ Expr.Subscript _ _ _ null/iii E:app/ii _$ ~!HE.cut # !AU # null/ii^ '| 'show HE _ _ _ _ _$ ~!HE.list # !HE.tup # !ya # !vp # !y9 # !AT zw null/i E:app/ii # !vt # null/iiiiiii^ '| 'show HL _ _ _ _ _$ ~!HL.nil # !HL.cons # null/ii^ '| 'show HS _ _ _ _ _$ ~!HS.nil # !HS.cons # null/ii^ '| 'show HS1 _ _ _ Stmt.Assign _ _ _ null/iii E:app/ii _$ ~!sZ '[ null/ '] term[_]/iii null/i E:app/ii # !sZ '[ '\"_law_shift\" str/i ', '\"_law_k\" str/i ', '\"_law_way\" str/i null/iiiii '] term[_]/iii null/i E:app/ii # !sZ '[ '\"_law_cell\" str/i ', '\"_law_shift\" str/i null/iii '] term[_]/iii null/i E:app/ii # !sZ '[ '\"_law_made\" str/i null/i '] term[_]/iii null/i E:app/ii # !sZ '[ '\"_law_one\" str/i ', '\"_law_other\" str/i null/iii '] term[_]/iii null/i E:app/ii # !HS1.set # !sY uZ null/i E:app/ii # !xV # !xW # null/iiiiiiiii^ '| 'show HS1 _ _ _ _ _$ ~!r3 # !yT # !xX # !HS1.ret # null/iiii^ '| 'show HT _ _ _ _ _ _ null/iiiiii E:app/ii ~!HT.name # !yS # null/ii^ '| 'show HB _ _ _ Expr.Compare _ _ _ _ null/iiii E:app/ii _$ ~!Ap AG null/i E:app/ii # !Ap AD Gl.ok & null/i E:app/ii null/i E:app/ii null/i E:app/ii # !Ap AE Gl.ok & null/i E:app/ii null/i E:app/ii null/i E:app/ii # !Ap zv Gl.ok & null/i E:app/ii null/i E:app/ii null/i E:app/ii # !Ap AF null/i E:app/ii # !Ap wz null/i E:app/ii # !Ap wA null/i E:app/ii # !yd # !yc # null/iiiiiiiii^ '| 'show HB _ _ _ _ _$ ~!vx # !Ao # !An # null/iii^ '| 'show HBs _ _ _ _ _ _ null/iiiiii E:app/ii ~!uT # !vu # !za # !HBs.or # null/iiii^ '| 'show HVs _ _ _ _ _ _ null/iiiiii E:app/ii ~!yR # !HVs.or # !HVs.one # null/iii^ '| 'show HI _ _ _ _ _$ ~!xY # !Ah # !HI.of # null/iii^ '| 'show HP _ _ _ _ _$ ~!HP.none # !yU # null/ii^ '| 'show HQ _ _ _ _ null/iiii E:app/ii ~!HQ.name # !HQ.bool # null/ii^ '| 'show HTs _ _ _ _ _$ ~!HTs.nil # !HTs.one # null/ii^ '| 'show HSX _ _ _ _ _$ ~!HSX.nil # !HSX.cons # null/ii^ '| 'show HSX1 _ _ _ _ _$ ~!r0 # !HSX1.plain # !xT # !xU # !HSX1.set # !HSX1.ret # !uN # !vk # !uM # null/iiiiiiiii^ '| 'show HEX _ _ _ _ _$ ~!uP # !vm # !uO # null/iii^ '| 'show HBX _ _ _ _ _$ ~!zb AD Gl.ok & null/i E:app/ii null/i E:app/ii null/i E:app/ii # !yb # null/ii^ '| 'assumption T:assumption/i null/i ? group/ii !Or.inl # !Or.inr # !tj # !sk # !Bk.look_t # !Bk.look_m # !Bb T:apply/ii '<;> '( 'intros null/ T:intros/ii '; 'kernel_rfl tacticKernel_rfl/i null/iii ? ') T:paren/iii T:tactic_<;>_/iii null/i ? group/ii !Ba T:apply/ii '<;> '( 'intros null/ T:intros/ii '; 'kernel_rfl tacticKernel_rfl/i null/iii ? ') T:paren/iii T:tactic_<;>_/iii null/i ? group/ii !A9 T:apply/ii '<;> '( 'intros null/ T:intros/ii '; 'kernel_rfl tacticKernel_rfl/i null/iii ? ') T:paren/iii T:tactic_<;>_/iii null/i ? group/ii !A8 T:apply/ii '<;> '( 'intros null/ T:intros/ii '; 'kernel_rfl tacticKernel_rfl/i null/iii ? ') T:paren/iii T:tactic_<;>_/iii null/i ? group/ii !Bh T:apply/ii '<;> '( 'intros null/ T:intros/ii '; 'exact rfl T:exact/ii null/iii ? ') T:paren/iii T:tactic_<;>_/iii null/i ? group/ii !Bg T:apply/ii '<;> '( 'intros null/ T:intros/ii '; 'exact rfl T:exact/ii null/iii ? ') T:paren/iii T:tactic_<;>_/iii null/i ? group/ii !Bf T:apply/ii '<;> '( 'intros null/ T:intros/ii '; 'exact rfl T:exact/ii null/iii ? ') T:paren/iii T:tactic_<;>_/iii null/i ? group/ii !Bd T:apply/ii '<;> '( 'intros null/ T:intros/ii '; 'exact rfl T:exact/ii null/iii ? ') T:paren/iii T:tactic_<;>_/iii null/i ? group/ii !Bc T:apply/ii '<;> '( 'intros null/ T:intros/ii '; 'exact rfl T:exact/ii null/iii ? ') T:paren/iii T:tactic_<;>_/iii null/i ? group/ii '| 'exact Gl.ok & null/i E:app/ii T:exact/ii null/i ? group/ii '| 'intros null/ T:intros/ii '; 'exact rfl T:exact/ii null/iii ? group/ii '| 'decide null/ T:optConfig/i T:decide/ii null/i ? group/ii '| 'intro e o vs c hc hez hof hcls hd h2 null/iiiiiiiiii T:intro/ii '; 'have null/ E:letConfig/i h9 E:letId/i null/ null/ ':= Gl.hold & hez hof hd h2$ E:letIdDecl/iiiii E:letDecl/i T:tacticHave__/iii '; 'trivial T:tacticTrivial/i null/iiiii ? group/ii null/iiiiiiiiiiiiiiiiiiiiiiiiiiiiiiiiiiiiiiiiiiiiiii T:first/ii").headD .missing
section
variable {C:Cx} (G:Gl C Hd.vw) (hz:C.held=none)
include G hz
theorem iP:FnAt C 0 "is_beneath" (sp_is_beneath C.ns):=by
 apply FnAt.mk (xs:=["path","upper"]) G 4 15<;>(try trivial)
 case hspec=>
 rintro _ σ Q ⟨x,y,rfl,h,q⟩
 refine⟨rfl,?_⟩
 refine⟨True.intro,?_⟩
 refine⟨Nat.le_trans (Nat.add_le_add_right h _) (by decide +kernel),?_⟩
 exact q
theorem nU (g1:GInt C "LONGEST_PART" 12) (g2:GStr C "SIGNS" dA):FnAt C 0 "is_part" (sp_is_part C.ns):=by
 apply FnAt.mk (xs:=["text"]) G 1 12<;>(try trivial)
 case hspec=>
 rintro _ σ Q ⟨x,b,rfl,h,q⟩
 refine⟨rfl,?_⟩
 have hl:x.length<=12:=h.elim (fun h=>h.1▸Nat.zero_le _) fun h=>h.1.hi
 have h1:x≠Str.ofString ".":=h.elim (fun h e=>by rw[e] at h;exact absurd h.1 (by decide +kernel)) fun h=>h.1.dot
 have h2:x≠Str.ofString "..":=h.elim (fun h e=>by rw[e] at h;exact absurd h.1 (by decide +kernel)) fun h=>h.1.dots
 refine (aZ rfl ?_)
 refine aE (decide_eq_false h1) ?_
 refine (aZ rfl ?_)
 refine aE (decide_eq_false h2) ?_
 refine⟨Nat.le_trans hl (by decide),?_⟩
 rcases h with ⟨h,rfl⟩ | ⟨h,rfl⟩
 ·refine aE (decide_eq_false (by rw[h];decide)) ?_
  exact q
 ·refine aI (decide_eq_true (Int.ofNat_le.mpr h.lo)) ?_
  refine aE (congrArg not (decide_eq_true (Int.ofNat_le.mpr hl))) ?_
  refine ?_
  refine aC (fun i m σ'=>σ'=σ) (fun _ _ _=>False) (fun _ _ _ _=>trivial) _ ?_ ?_ (fun _ _ _ h=>h.elim) _ _ rfl
  ·rintro i v m σ' Q' hv rfl n1 n2 n3
   obtain ⟨c,hc,rfl⟩:=m4 hv
   refine⟨_,rfl,?_⟩
   refine (wD ?_)
   refine aE (congrArg not (h.sg c (List.mem_of_getElem? hc))) ?_
   exact n1 _ _ rfl
  ·rintro m σ' rfl
   exact q
theorem nS (g1:GInt C "MOST_PARTS" 8) (g2:GInt C "LONGEST_PART" 12) (g3:GStr C "SIGNS" dA):FnAt C 1 "is_path" (sp_is_path C.ns):=by
 have h0:=nU G hz g2 g3
 apply FnAt.mk (xs:=["text"]) G 2 13<;>(try trivial)
 case hspec=>
 rintro _ σ Q ⟨x,b,rfl,h,q⟩
 refine⟨rfl,?_⟩
 obtain ⟨ps,e,hl,hz',hp⟩:∃ps:List Str,Txt.split x (Str.ofString "/")=ps/\ps.length<=8/\x.length<=1048576/\(ps=[Str.ofString "a",⟨#[]⟩,Str.ofString "b"]/\b=false\/(∀p∈ps,okPart p)/\b=true):=by
  rcases h with ⟨rfl,rfl⟩ | ⟨⟨⟨ps,rfl,h1,h2,h3⟩,_⟩,rfl⟩
  ·exact⟨_,jl,by decide,by decide +kernel,.inl ⟨rfl,rfl⟩⟩
  ·refine⟨ps,fF (fun p hp=>(h3 p hp).fr) h1,h2,?_,.inr ⟨h3,rfl⟩⟩
   exact Nat.le_trans (Good.len ⟨⟨ps,rfl,h1,h2,h3⟩,‹_›⟩) (by decide)
 refine⟨True.intro,?_⟩
 refine⟨⟨by rw[dI];rfl,hz'⟩,fun a ha=>?_⟩
 rw[e]
 have xa:=af σ a (.list (ps.map .str))
 have g:Grow σ (am σ a (.list (ps.map .str))):=Grow.refl.upd ha
 generalize am σ a (.list (ps.map .str))=σ₁ at xa g ⊢
 refine (gO xa ?_)
 refine aE (decide_eq_false (by rw[List.length_map];exact Int.not_lt.mpr (Int.ofNat_le.mpr hl))) ?_
 refine (i6 xa ?_)
 clear h
 rcases hp with ⟨rfl,rfl⟩ | ⟨h,rfl⟩
 ·refine⟨xa,_,rfl,?_⟩
  refine⟨_,true,rfl,.inr ⟨tH,rfl⟩,?_⟩
  refine⟨xa,_,rfl,?_⟩
  refine⟨_,false,rfl,.inl ⟨rfl,rfl⟩,?_⟩
  exact q _ g
 ·refine aC (fun i m σ'=>σ'=σ₁) (fun _ _ _=>False) (fun i m σ' h=>by rw[h];exact xa) _ ?_ ?_ (fun _ _ _ h=>h.elim) _ _ rfl
  ·rintro i v m σ' Q' hv rfl n1 n2 n3
   obtain ⟨y,hy,rfl⟩:=bg hv
   refine⟨_,rfl,?_⟩
   refine⟨_,true,rfl,.inr ⟨h y (List.mem_of_getElem? hy),rfl⟩,?_⟩
   exact n1 _ _ rfl
  ·rintro m σ' rfl
   exact q _ g
theorem mH:FnAt C 0 "above" (sp_above C.ns):=by
 apply FnAt.mk (xs:=["path"]) G 3 14<;>(try trivial)
 case hspec=>
 rintro _ σ Q ⟨x,rfl,hx,q⟩
 refine⟨rfl,?_⟩
 have hsz:=PyProof.Rows.split_le x (Str.ofString "/")
 have hsl:(Txt.split x (Str.ofString "/")).length<=302:=Nat.le_trans hsz (Nat.add_le_add_right hx 2)
 refine⟨True.intro,⟨⟨by rw[dI];rfl,Nat.le_trans hx (by decide)⟩,fun a ha=>?_⟩⟩
 have hp:∀σ',Grow (am σ a (.list ((Txt.split x (Str.ofString "/")).map .str))) σ'->σ' a=some (.list ((Txt.split x (Str.ofString "/")).map .str)):=fun σ' g=>g _ _ (af _ _ _)
 refine (gO (af _ _ _) ?_)
 refine AA (a:=1) ⟨by decide,by decide,Int.natCast_nonneg _,Int.lt_of_le_of_lt (Int.ofNat_le.mpr (Nat.le_trans (Nat.le_of_eq (List.length_map _)) hsl)) (by decide)⟩ ?_
 rw[List.length_map]
 have e1:((((Txt.split x (Str.ofString "/")).length:Nat):Int)-1).toNat=(Txt.split x (Str.ofString "/")).length-1:=Int.toNat_sub _ 1
 rw[e1]
 refine cR (Grow (am σ a (.list ((Txt.split x (Str.ofString "/")).map .str)))) (fun _ _=>trivial) _ ((dz x).map .str) [] _ _ (by rw[List.length_map,aG];unfold dz;rw[List.length_map,List.length_range]) (by rw[aG];exact Nat.le_trans (Nat.add_le_add_left (Nat.sub_le _ _) _) (Nat.le_trans (Nat.add_le_add_left hsl _) (by decide))) ?_ Grow.refl ?_
 ·intro i v y hv hy σ' Q' g n
  obtain ⟨hi,rfl⟩:=aV hv
  refine⟨_,rfl,?_⟩
  refine⟨True.intro,?_⟩
  refine (⟨_,rfl,gD (hp _ g) fun b hb=>?_⟩)
  rw[dW _ (Int.natCast_nonneg (i+1) |> fun h=>by rw[show (1+(i:Int))=((i+1:Nat):Int) from Int.add_comm _ _];exact h),show (1+(i:Int)).toNat=i+1 from by rw[Int.add_comm];rfl,<-List.map_take]
  have hsum:=nh (x:=x) (i+1)
  refine cP (ys:=(Txt.split x (Str.ofString "/")).take (i+1)) (af _ _ _) (by rw[dI];show _+_*1<=_;rw[Nat.mul_one];exact Nat.le_trans hsum (Nat.le_trans (Nat.add_le_add_right hx 1) (by decide))) ?_
  have:y=.str (Str.join (Str.ofString "/") ((Txt.split x (Str.ofString "/")).take (i+1))):=by
   obtain ⟨z,hz,rfl⟩:=bg hy
   unfold dz at hz
   rw[List.getElem?_map,List.getElem?_range hi] at hz
   cases hz;rfl
  rw[<-this]
  exact n _ (g.upd hb)
 ·intro σ' g b hb
  have g2:=(Grow.upd Grow.refl ha).trans g
  exact q (dz x) (fun y=>og y x) (by unfold dz;rw[List.length_map,List.length_range];exact Nat.sub_le_of_le_add hsl) b _ (g2.upd hb) (g2.none hb) (af _ _ _)
end
theorem rW:(cl dA).length=65:=by decide +kernel
theorem mh (k:Int):Txt.contains dA (bA k)=true:=by
 have h:∀n:Fin 65,Txt.contains dA ⟨#[(cl dA).getD n.1 0]⟩=true:=by decide +kernel
 have h0:0<=k % 65:=Int.emod_nonneg _ (by decide)
 have h1:k % 65 < 65:=Int.emod_lt_of_pos _ (by decide)
 exact h ⟨(k % 65).toNat,(Int.toNat_lt h0).mpr h1⟩
theorem qZ (k:Int):¬(bA k=⟨#[110]⟩/\bA (k+7)=⟨#[111]⟩):=by
 have h:∀n:Fin 65,¬((cl dA).getD n.1 0=110/\(cl dA).getD ((n.1+7) % 65) 0=111):=by decide +kernel
 have h0:0<=k % 65:=Int.emod_nonneg _ (by decide)
 have h1:k % 65 < 65:=Int.emod_lt_of_pos _ (by decide)
 have e:((k+7) % 65).toNat=((k % 65).toNat+7) % 65:=by
  rw[<-Int.emod_add_emod]
  refine x1_1 (Int.eq_ofNat_of_zero_le h0) fun r hr=>?_
  rw[hr];rfl
 rintro ⟨a,b⟩
 refine h ⟨(k % 65).toNat,(Int.toNat_lt h0).mpr h1⟩ ⟨?_,?_⟩
 ·exact (List.cons.inj (congrArg cl a)).1
 ·show (cl dA).getD (((k % 65).toNat+7) % 65) 0=111
  rw[<-e];exact (List.cons.inj (congrArg cl b)).1
theorem p6:∀l:List Str,cl (Str.join (Str.ofString "") l)=l.flatMap cl
 |[]=>rfl
 |[x]=>by rw[List.flatMap_cons];exact (List.append_nil _).symm
 |x::y::r=>by
  have e:Str.join (Str.ofString "") (x::y::r)=x++Str.ofString ""++Str.join (Str.ofString "") (y::r):=rfl
  rw[e,bM,bM,p6 (y::r),List.flatMap_cons]
  exact congrArg (·++_) (List.append_nil _)
noncomputable def Ones (l:List Str):Prop:=∀x∈l,∃k,x=bA k
theorem Ones.len {l:List Str} (h:Ones l):(l.flatMap cl).length=l.length:=by
 induction l with
 |nil=>rfl
 |cons x r ih=>
  obtain ⟨k,rfl⟩:=h x (.head _)
  rw[List.flatMap_cons,List.length_append,ih fun y hy=>h y (.tail _ hy),List.length_cons]
  exact Nat.add_comm 1 _
theorem Ones.sum {l:List Str} (h:Ones l):(l.map (·.length)).sum=l.length:=by
 induction l with
 |nil=>rfl
 |cons x r ih=>
  obtain ⟨k,rfl⟩:=h x (.head _)
  rw[List.map_cons,List.sum_cons,ih fun y hy=>h y (.tail _ hy),List.length_cons]
  exact Nat.add_comm 1 _
theorem Ones.sg {l:List Str} (h:Ones l):∀c∈l.flatMap cl,Txt.contains dA ⟨#[c]⟩=true:=fun c hc=>by
 refine x1_2 (List.mem_flatMap.mp hc) fun x hx h1=>?_
 obtain ⟨k,rfl⟩:=h x hx
 cases List.mem_singleton.mp h1
 exact mh k
theorem sS:(Str.ofString "").length=0:=rfl
theorem lD {ns:List Int} {σ:ae} {a:Addr} {l:List Str} {lo hi:Option Int} {Q:V->ae->Prop} (h:σ a=some (.list (l.map .str))) (ho:Ones l) (hz:l.length<=1000)
  (q:∀σ',Grow σ σ'->Ones (aL l lo hi)->Q (.str (Str.join (Str.ofString "") (aL l lo hi))) σ'):mz ns lo hi (.ref a) σ fun v σ'=>iq [.str (Str.ofString ""),v] σ' Q:=by
 refine gD h fun b hb=>?_
 have e:aL (l.map V.str) lo hi=(aL l lo hi).map V.str:=by
  unfold aL
  rw[List.length_map,<-List.map_drop,<-List.map_take]
 have o2:Ones (aL l lo hi):=fun x hx=>ho x (List.mem_of_mem_drop (List.mem_of_mem_take hx))
 rw[e]
 exact cP (af _ _ _) (by rw[o2.sum,sS,Nat.mul_zero];exact Nat.le_trans (mP l lo hi) (Nat.le_trans hz (by decide))) (q _ (Grow.refl.upd hb) o2)
theorem Az {ns:List Int} {σ:ae} {k:Int} {Q:V->ae->Prop} (q:Q (.str (bA k)) σ):sp__law_sign_by ns [.int k] σ Q:=⟨k,rfl,q⟩
theorem AV:bS 7:=by unfold bS;decide
theorem Ay (b:Bool):bS (if b then 1 else 0):=by unfold bS;cases b<;>decide
theorem l8 (s:Int):1<=bN s:=by
 unfold bN
 split
 ·exact Int.le_add_of_nonneg_right (Int.emod_nonneg _ (by decide))
 ·decide
theorem l9 (s:Int):bN s<=12:=by
 have:=Int.emod_lt_of_pos (s / 195) (b:=12) (by decide)
 unfold bN
 split
 ·omega
 ·decide
theorem NS.zx (s:Int):NS s (Str.ofString "0x"):=⟨⟨by decide +kernel,by decide +kernel,by decide +kernel,by decide +kernel,by decide +kernel⟩,fun _=>.inr rfl,fun _=>by decide +kernel⟩
noncomputable def bB (s kk:Int):List Str:=(List.range 12).map fun (j:Nat)=>bA (s / 195+7*(j:Int)+kk*if decide (s / 5 % 4=0) then 1 else 0)
theorem ju (s kk:Int):(bB s kk).length=12:=by unfold bB;rw[List.length_map,List.length_range]
theorem gW (s kk:Int):Ones (bB s kk):=fun x hx=>let ⟨_,_,e⟩:=List.mem_map.mp hx;⟨_,e.symm⟩
theorem fO {s kk:Int} {i:Nat} (h:i < 12):(bB s kk)[i]?=some (bA (s / 195+7*(i:Int)+kk*if decide (s / 5 % 4=0) then 1 else 0)):=by
 unfold bB;rw[List.getElem?_map,List.getElem?_range h];rfl
theorem rd {s kk:Int} {n:Nat} (hw:s / 5 % 4=2):Str.join (Str.ofString "") ((bB s kk).take n)≠Str.ofString "no":=by
 intro e
 have e1:=congrArg cl e
 rw[p6] at e1
 have l1:=congrArg List.length e1
 rw[Ones.len fun x hx=>gW s kk x (List.mem_of_mem_take hx)] at l1
 have g0:=fO (s:=s) (kk:=kk) (i:=0) (by decide)
 have g1:=fO (s:=s) (kk:=kk) (i:=1) (by decide)
 rw[decide_eq_false (by rw[hw];decide),show (if false=true then (1:Int) else 0)=0 from rfl,Int.mul_zero,Int.add_zero] at g0 g1
 have hn:2<=n:=by
  rw[List.length_take] at l1
  exact Nat.le_trans (Nat.le_of_eq l1.symm) (Nat.min_le_left ..)
 generalize bB s kk=R at e1 g0 g1
 match R,n,hn with
 |a::b::r,n+2,_=>
  cases g0;cases g1
  rw[List.take_succ_cons,List.take_succ_cons,List.flatMap_cons,List.flatMap_cons] at e1
  have e2:=List.cons.inj e1
  have e3:=List.cons.inj e2.2
  refine qZ (s / 195) ⟨?_,?_⟩
  ·have:bA (s / 195+7*((0:Nat):Int))=bA (s / 195):=by rw[show s / 195+7*((0:Nat):Int)=s / 195 from Int.add_zero _]
   rw[<-this];exact congrArg (fun c=>(⟨#[c]⟩:Str)) e2.1
  ·exact congrArg (fun c=>(⟨#[c]⟩:Str)) e3.1
theorem zN {ns:List Int} {σ:ae} {Q:V->ae->Prop} {b:Addr} {x y:Int} {c:Bool} (h:σ b=some (.list [.int x,.int y])) (q:∀z,z=x\/z=y->Q (.int z) σ):bl ns (.ref b) (.int (if c then 1 else 0)) σ Q:=by
 cases c
 ·exact ch h (by decide) rfl (q x (.inl rfl))
 ·exact ch h (by decide) rfl (q y (.inr rfl))
theorem xQ {x z:Int} {c:Bool} (hz:1<=z):0<=x % z*(if c then 1 else 0)/\x % z*(if c then 1 else 0) < z:=by
 cases c
 ·rw[show (if false=true then (1:Int) else 0)=0 from rfl,Int.mul_zero];exact⟨Int.le_refl 0,hz⟩
 ·rw[show (if true=true then (1:Int) else 0)=1 from rfl,Int.mul_one];exact⟨Int.emod_nonneg _ (Int.ne_of_gt hz),Int.emod_lt_of_pos _ hz⟩
theorem qt {α:Type} (l:List α) {n k:Int} (h0:0<=n) (h1:n<=k) (h2:k<=l.length):aL l (some n) (some k)=(l.drop n.toNat).take (k-n).toNat:=by
 obtain ⟨n,rfl⟩:=Int.eq_ofNat_of_zero_le h0
 obtain ⟨k,rfl⟩:=Int.eq_ofNat_of_zero_le (Int.le_trans h0 h1)
 have h1:=Int.ofNat_le.mp h1
 have h2:=Int.ofNat_le.mp h2
 unfold aL gS
 show (l.drop (clipAt l.length n)).take (clipAt l.length k-clipAt l.length n)=_
 rw[dX (Int.natCast_nonneg _),dX (Int.natCast_nonneg _),Int.toNat_natCast,Int.toNat_natCast,Nat.min_eq_left h2,Nat.min_eq_left (Nat.le_trans h1 h2),Int.toNat_sub]
theorem Ones.ok {l:List Str} (h:Ones l):(Str.join (Str.ofString "") l).length=l.length/\∀c∈cl (Str.join (Str.ofString "") l),Txt.contains dA ⟨#[c]⟩=true:=by
 rw[ck,p6];exact⟨h.len,h.sg⟩
theorem NS.of {s:Int} {x:Str} (h1:(x.length:Int)=bN s) (h2:∀c∈cl x,Txt.contains dA ⟨#[c]⟩=true) (hw:s / 5 % 4≠2) (n1:x≠Str.ofString ".") (n2:x≠Str.ofString ".."):NS s x:=
 ⟨⟨n1,n2,Int.ofNat_le.mp (h1▸l8 s),Int.ofNat_le.mp (h1▸l9 s),h2⟩,fun _=>.inl h1,fun e=>absurd e hw⟩
theorem qD {x y:Str} (h1:∀c∈cl x,Txt.contains dA ⟨#[c]⟩=true) (h2:∀c∈cl y,Txt.contains dA ⟨#[c]⟩=true):∀c∈cl (x++y),Txt.contains dA ⟨#[c]⟩=true:=fun c hc=>by
 rw[bM] at hc
 exact (List.mem_append.mp hc).elim (h1 c) (h2 c)
theorem tK (k:Int):∀c∈cl (bA k),Txt.contains dA ⟨#[c]⟩=true:=fun c hc=>by cases List.mem_singleton.mp hc;exact mh k
theorem pP {a z:Int} {m n:Nat} (h0:0<=a) (h1:a < z) (h2:z<=12) (e1:m=min a.toNat 12) (e2:n=min (z-1-a).toNat (12-a.toNat)):((m+1+n:Nat):Int)=z:=by
 obtain ⟨a,rfl⟩:=Int.eq_ofNat_of_zero_le h0
 obtain ⟨z,rfl⟩:=Int.eq_ofNat_of_zero_le (Int.le_trans h0 (Int.le_of_lt h1))
 have h1:=Int.ofNat_lt.mp h1
 have h2:=Int.ofNat_le.mp h2
 obtain ⟨d,rfl⟩:=Nat.exists_eq_add_of_le h1
 have e3:((a+1+d:Nat):Int)-1-a=d:=by omega
 have h3:a+d<=12:=Nat.le_trans (Nat.add_le_add_right (Nat.le_succ a) d) h2
 rw[e3,Int.toNat_natCast,Int.toNat_natCast,Nat.min_eq_left (Nat.le_sub_of_add_le (Nat.add_comm a d▸h3))] at e2
 rw[Int.toNat_natCast,Nat.min_eq_left (Nat.le_trans (Nat.le_add_right a d) h3)] at e1
 rw[e1,e2]
section
variable {C:Cx} (G:Gl C Hd.vw) (hz:C.held=none)
include G hz
theorem gq:FnAt C 0 "_law_sign_by" (sp__law_sign_by C.ns):=by
 apply FnAt.mk (xs:=["_law_k"]) G 13 25<;>(try trivial)
 case hspec=>
 rintro _ σ Q ⟨k,rfl,q⟩
 refine⟨rfl,?_⟩
 have h0:0<=k % 65:=Int.emod_nonneg _ (by decide)
 have h1:k % 65 < 65:=Int.emod_lt_of_pos _ (by decide)
 refine⟨by decide,?_⟩
 refine .inl (jJ (x:=dA) (by decide +kernel) h0 (c:=(cl dA).getD (k % 65).toNat 0) ?_ q)
 rw[List.getD_eq_getElem?_getD]
 cases e:(cl dA)[(k % 65).toNat]? with
 |none=>rw[List.getElem?_eq_none_iff,rW] at e;exact absurd ((Int.toNat_lt h0).mpr h1) (Nat.not_lt.mpr e)
 |some n=>rfl
theorem gv:FnAt C 1 "_law_name_by" (sp__law_name_by C.ns):=by
 have h0:=gq G hz
 apply FnAt.mk (xs:=["_law_k","_law_shift"]) G 14 26<;>(try trivial)
 case hspec=>
 rintro _ σ Q ⟨kk,sh,rfl,q⟩
 refine⟨rfl,?_⟩
 refine q8 ?_
 refine ix (fun m' σ'=>σ'=σ/\m' "_law_k"=some (.int kk)/\m' "_law_shift"=some (.int sh)/\m' "_law_size"=some (.int (bN sh))) (fun R n=>?_) ?_
 ·refine⟨⟨by decide,by decide⟩,by decide,aZ rfl ?_⟩
  by_cases h:sh / 65 % 3=1
  ·refine aI (decide_eq_true h) ?_
   refine⟨⟨by decide,by decide⟩,by decide,?_⟩
   exact n _ _ ⟨rfl,rfl,rfl,by unfold bN;rw[if_pos h];rfl⟩
  ·refine aE (decide_eq_false h) ?_
   exact n _ _ ⟨rfl,rfl,rfl,by unfold bN;rw[if_neg h];rfl⟩
 rintro m σ' ⟨rfl,hk,hs,hz⟩
 have z1:=l8 sh
 have z2:=l9 sh
 refine atK.of hs ⟨⟨by decide,by decide⟩,by decide,?_⟩
 refine rc ⟨by decide,by decide⟩ ?_
 refine cR (fun s=>s=σ') (fun _ _=>trivial) _ ((bB sh kk).map .str) [] _ _ (by rw[List.length_map,ju]<;>rfl) (by decide) ?_ rfl ?_
 ·rintro i v y hv hy s Q' rfl n
  obtain ⟨hi,rfl⟩:=aV hv
  refine⟨_,rfl,?_⟩
  refine atK.of hs ⟨⟨by decide,by decide⟩,.inl ⟨.inl AV,?_⟩⟩
  refine atK.of hk ((aZ rfl (.inl ⟨.inr (Ay _),?_⟩)))
  refine Az ?_
  have:=fO (s:=sh) (kk:=kk) hi
  rw[List.getElem?_map,this] at hy
  cases hy
  rw[Int.zero_add]
  exact n _ rfl
 ·rintro s rfl a ha
  rw[List.nil_append]
  have xa:=af s a (.list ((bB sh kk).map .str))
  have g0:Grow s (am s a (.list ((bB sh kk).map .str))):=Grow.refl.upd ha
  generalize am s a (.list ((bB sh kk).map .str))=σ₁ at xa g0 ⊢
  refine atK.of hs ⟨⟨by decide,by decide⟩,atK.of hz ⟨z1,?_⟩⟩
  refine (aZ rfl (.inl ⟨.inr (Ay _),?_⟩))
  refine bH (xQ (x:=sh / 20) (c:=decide (sh / 5 % 4=1)) z1) fun d1 d2=>?_
  generalize sh / 20 % bN sh*(if decide (sh / 5 % 4=1)=true then 1 else 0)=at' at d1 d2 ⊢
  refine atK.of hs (atK.of hk ⟨l2,fun b hb=>?_⟩)
  have hab:a≠b:=by rintro rfl;rw[xa] at hb;cases hb
  have xa2:am σ₁ b (.list [.int 1,.int 26]) a=some (.list ((bB sh kk).map .str)):=(an hab).trans xa
  have g1:=g0.upd (o:=.list [.int 1,.int 26]) hb
  have xb:=af σ₁ b (.list [.int 1,.int 26])
  generalize am σ₁ b (.list [.int 1,.int 26])=σ₂ at xa2 g1 xb ⊢
  refine (aZ rfl (zN xb fun z hz'=>.inl ⟨.inr (by rcases hz' with rfl | rfl<;>(unfold bS;decide)),Az ?_⟩))
  generalize sh+kk*z=tk
  have hl:=ju sh kk
  have ho:=gW sh kk
  have hno:=fun n=>rd (s:=sh) (kk:=kk) (n:=n)
  generalize bB sh kk=R at xa2 hl ho hno
  refine⟨True.intro,(⟨_,rfl,lD xa2 ho (Nat.le_trans (Nat.le_of_eq hl) (by decide)) fun σ₃ g3 o3=>?_⟩)⟩
  rw[dW _ d1] at o3 ⊢
  have k3:=o3.ok
  rw[List.length_take,hl] at k3
  generalize Str.join (Str.ofString "") (R.take at'.toNat)=x1 at k3 ⊢
  have b3:x1.length<=12:=k3.1▸Nat.min_le_right ..
  refine⟨Nat.le_trans (Nat.add_le_add_right b3 1) (by decide),?_⟩
  have xa3:=g3 _ _ xa2
  refine⟨True.intro,(⟨_,rfl,atK.of hz ⟨_,rfl,lD xa3 ho (Nat.le_trans (Nat.le_of_eq hl) (by decide)) fun σ₄ g4 o4=>?_⟩⟩)⟩
  rw[qt _ d1 (Int.le_sub_one_of_lt d2) (by rw[hl];exact Int.le_trans (Int.sub_le_self _ (by decide)) z2)] at o4 ⊢
  have k4:=o4.ok
  rw[List.length_take,List.length_drop,hl] at k4
  generalize Str.join (Str.ofString "") ((R.drop at'.toNat).take (bN sh-1-at').toNat)=x2 at k4 ⊢
  have b4:=pP d1 d2 z2 k3.1 k4.1
  have e4:(x1++bA tk++x2).length=x1.length+1+x2.length:=by rw[dm,dm];rfl
  refine⟨?_,?_⟩
  ·rw[<-dm,e4];exact Nat.le_trans (Int.ofNat_le.mp (b4▸z2)) (by decide)
  rw[<-e4] at b4
  have k5:=qD (qD k3.2 (tK tk)) k4.2
  generalize x1++bA tk++x2=x at b4 k5 ⊢
  have xa4:=g4 _ _ xa3
  have gs:=(g1.trans g3).trans g4
  refine bT (fun m' σ'=>Grow s σ'/\∃x,m' "_law_name"=some (.str x)/\(x≠Str.ofString "."->x≠Str.ofString ".."->NS sh x)) (fun R' n=>?_) ?_
  ·refine (aZ rfl ?_)
   by_cases hw:sh / 5 % 4=2
   ·refine aI (decide_eq_true hw) ?_
    have f1:=Int.emod_nonneg (sh / 65+kk) (b:=12) (by decide)
    have f2:=Int.emod_lt_of_pos (sh / 65+kk) (b:=12) (by decide)
    refine⟨True.intro,atK.of hs ⟨⟨by decide,by decide⟩,atK.of hk ⟨by decide,⟨_,rfl,lD xa4 ho (Nat.le_trans (Nat.le_of_eq hl) (by decide)) fun σ₅ g5 o5=>?_⟩⟩⟩⟩
    generalize (sh / 65+kk) % 12=r at f1 f2 o5 ⊢
    rw[dW _ (Int.add_nonneg (by decide) f1)] at o5 ⊢
    have k6:=o5.ok
    rw[List.length_take,hl] at k6
    have hlo:1<=min (1+r).toNat 12/\min (1+r).toNat 12<=12:=by omega
    rw[<-k6.1] at hlo
    exact n _ _ ⟨gs.trans g5,_,rfl,fun n1 n2=>⟨⟨n1,n2,hlo.1,hlo.2,k6.2⟩,fun e=>absurd hw e,fun _=>hno _ hw⟩⟩
   ·refine aE (decide_eq_false hw) ?_
    exact n _ _ ⟨gs,x,rfl,fun n1 n2=>NS.of b4 k5 hw n1 n2⟩
  ·rintro m' σ' ⟨g,y,hm,hn⟩
   refine atK.of hm (aZ rfl ?_)
   by_cases n1:y=Str.ofString "."
   ·refine aI (decide_eq_true n1) ?_
    exact q _ _ g (NS.zx sh)
   ·refine aE (decide_eq_false n1) ?_
    refine atK.of hm (aZ rfl ?_)
    by_cases n2:y=Str.ofString ".."
    ·refine aI (decide_eq_true n2) ?_
     exact q _ _ g (NS.zx sh)
    ·refine aE (decide_eq_false n2) ?_
     exact atK.of hm (q _ _ g (hn n1 n2))
end
noncomputable def zB (x:Str):Bool:=decide (x≠Str.ofString "."/\x≠Str.ofString ".."/\1<=x.length/\x.length<=12)&&(cl x).all fun c=>Txt.contains dA ⟨#[c]⟩
theorem okPart.of {x:Str} (h:zB x=true):okPart x:=by
 refine bH ((Bool.and_eq_true _ _).mp h) fun h1 h2=>?_
 refine ze (of_decide_eq_true h1) fun a b c d=>?_
 exact⟨a,b,c,d,List.all_eq_true.mp h2⟩
theorem rJ:oi=Str.join (Str.ofString "/") [Str.ofString "no",Str.ofString "such",Str.ofString "path",Str.ofString "here"]:=by decide +kernel
theorem Good.of {ps:List Str} (h0:ps≠[]) (h8:ps.length<=8) (h:∀p∈ps,okPart p) (hn:ps≠[Str.ofString "no",Str.ofString "such",Str.ofString "path",Str.ofString "here"]):Good (Str.join (Str.ofString "/") ps):=by
 refine⟨⟨ps,rfl,h0,h8,h⟩,fun e=>hn ?_⟩
 rw[rJ] at e
 refine gi (fun p hp=>(h p hp).fr) (fun p hp=>?_) h0 (by intro e;cases e) e
 have h4:∀p∈[Str.ofString "no",Str.ofString "such",Str.ofString "path",Str.ofString "here"],zB p=true:=by decide +kernel
 exact (okPart.of (h4 p hp)).fr
theorem NS.here {s:Int} {ps:List Str} (h:∀p∈ps,NS s p):ps≠[Str.ofString "no",Str.ofString "such",Str.ofString "path",Str.ofString "here"]:=by
 rintro rfl
 have h1:=h _ (.head _)
 have h2:=h _ (.tail _ (.head _))
 by_cases hw:s / 5 % 4=2
 ·exact h1.eq2 hw rfl
 ·have e1:=(h1.ne2 hw).resolve_right (by decide +kernel)
  have e2:=(h2.ne2 hw).resolve_right (by decide +kernel)
  exact absurd (e1.trans e2.symm) (by decide +kernel)
noncomputable def kE (n:Nat):Str:=Str.ofString "tops"++Str.ofString (toString ((n:Nat):Int))++Str.ofString "/x"
theorem kC:∀n:Fin 60,zB (Str.ofString "tops"++Str.ofString (toString ((n.1:Nat):Int)))=true/\kE n.1=Str.join (Str.ofString "/") [Str.ofString "tops"++Str.ofString (toString ((n.1:Nat):Int)),Str.ofString "x"]:=by decide +kernel
theorem cx {n:Nat} (h:n < 60):Good (kE n):=by
 refine bH (kC ⟨n,h⟩) fun h1 h2=>?_
 have h2:kE n=_:=h2
 rw[h2]
 refine Good.of (by intro e;cases e) (by show 2<=8;decide) (fun p hp=>?_) (by intro e;have:=congrArg List.length e;exact absurd (show 2=4 from this) (by decide))
 rcases List.mem_cons.mp hp with rfl | hp
 ·exact okPart.of h1
 ·cases List.mem_singleton.mp hp
  exact okPart.of (by decide +kernel)
theorem fE {P:Str->Prop}:∀(ys:List V),(∀(i:Nat) y,ys[i]?=some y->∃x,P x/\y=.str x)->∃xs:List Str,ys=xs.map .str/\∀x∈xs,P x
 |[],_=>⟨[],rfl,fun _ h=>(nomatch h)⟩
 |y::r,h=>by
  obtain ⟨x,hx,rfl⟩:=h 0 y rfl
  obtain ⟨xs,rfl,hxs⟩:=fE r fun i z e=>h (i+1) z e
  exact⟨x::xs,rfl,fun z hz=>(List.mem_cons.mp hz).elim (fun e=>e▸hx) (hxs z)⟩
theorem gE {s:Int} {n:Nat} {m:aq} {σ:ae} {T:ET} {R:List V->ae->Prop} (hn:n<=8)
  (step:∀(j:Nat) σ' (Q':V->ae->Prop),j < n->(∀(x:Str) σ'',Grow σ' σ''->NS s x->Q' (.str x) σ'')->T (put m "_law_j" (.int j)) σ' Q')
  (h:∀(xs:List Str) σ',Grow σ σ'->xs.length=n->(∀x∈xs,NS s x)->R (xs.map .str) σ') :
  cq (Tgt.name "_law_j") (fun _=>True) tT T m (aF 0 n) [] σ R:=by
 refine eK (Grow σ) (fun _ y=>∃x,NS s x/\y=.str x) (fun _ _=>trivial) _ [] 0 _ _ (by rw[aG];exact Nat.le_trans (Nat.add_le_add_left hn _) (by decide)) ?_ Grow.refl ?_
 ·rintro i v hv σ' Q' g nx
  obtain ⟨hi,rfl⟩:=aV hv
  refine⟨_,rfl,?_⟩
  rw[Int.zero_add]
  exact step i σ' Q' hi fun x σ'' g' hx=>nx _ _ (g.trans g') ⟨x,hx,rfl⟩
 ·rintro ys σ' g hl hys
  obtain ⟨xs,rfl,hx⟩:=fE ys fun i y e=>hys i y e
  rw[List.length_map,aG] at hl
  exact h xs σ' g hl hx
theorem AH {ns:List Int} {σ:ae} {c s:Int} {Q:V->ae->Prop} (q:∀(x:Str) σ',Grow σ σ'->NS s x->Q (.str x) σ'):sp__law_name_by ns [.int c,.int s] σ Q:=⟨c,s,rfl,q⟩
theorem fg {c k:Int} {n:Nat} (h:k=n) (h0:0 < n):∃i:Nat,i < n/\c % k=i:=by
 subst h
 have h1:=Int.emod_nonneg c (b:=(n:Int)) (Int.ne_of_gt (Int.ofNat_lt.mpr h0))
 have h2:=Int.emod_lt_of_pos c (b:=(n:Int)) (Int.ofNat_lt.mpr h0)
 exact⟨(c % n).toNat,(Int.toNat_lt h1).mpr h2,(Int.toNat_of_nonneg h1).symm⟩
theorem qG {σ:ae} {Q:V->ae->Prop} {x y:Int} (q:Q (.int (x+y)) σ):fZ (.int x) (.int y) σ Q:=q
theorem zM {ns:List Int} {σ:ae} {Q:V->ae->Prop} {b:Addr} {i:Nat} {x y z:Int} (hi:i < 3) (h:σ b=some (.list [.int x,.int y,.int z])) (q:∀v,v=x\/v=y\/v=z->Q (.int v) σ):bl ns (.ref b) (.int i) σ Q:=by
 match i,hi with
 |0,_=>exact ch h (by decide) rfl (q x (.inl rfl))
 |1,_=>exact ch h (by decide) rfl (q y (.inr (.inl rfl)))
 |2,_=>exact ch h (by decide) rfl (q z (.inr (.inr rfl)))
theorem uy {i:Nat} (h:i < 5):∃d:Nat,[V.int 1,.int 1,.int 2,.int 2,.int 3][i]?=some (.int d)/\1<=d/\d<=3:=by
 match i,h with
 |0,_=>exact⟨1,rfl,by decide,by decide⟩
 |1,_=>exact⟨1,rfl,by decide,by decide⟩
 |2,_=>exact⟨2,rfl,by decide,by decide⟩
 |3,_=>exact⟨2,rfl,by decide,by decide⟩
 |4,_=>exact⟨3,rfl,by decide,by decide⟩
inductive PartsAt (s:Int) (n:Nat) (σ₀:ae) (c:Int) (m:aq) (σ:ae):Prop
 |mk (a:Addr) (xs:List Str) (g:Grow σ₀ σ) (h1:m "_law_cell"=some (.int c)) (h2:m "_law_shift"=some (.int s)) (h3:m "_law_parts"=some (.ref a)) (x:σ a=some (.list (xs.map .str))) (ne:xs≠[]) (len:xs.length<=n) (ok:∀x∈xs,NS s x):PartsAt s n σ₀ c m σ
section
variable {C:Cx} (G:Gl C Hd.vw) (hz:C.held=none)
include G hz
theorem gu:FnAt C 2 "_law_path_by" (sp__law_path_by C.ns):=by
 have h0:=gv G hz
 apply FnAt.mk (xs:=["_law_cell","_law_shift"]) G 15 27<;>(try trivial)
 case hspec=>
 rintro _ σ Q ⟨c,sh,rfl,q⟩
 refine⟨rfl,?_⟩
 refine⟨by decide,aZ rfl ?_⟩
 by_cases h11:c % 11=4
 ·refine aI (decide_eq_true h11) ?_
  refine⟨⟨by decide,by decide⟩,by decide,?_⟩
  obtain ⟨i,hi,e⟩:=fg (c:=c / 11) (k:=60) (n:=60) rfl (by decide)
  have hg:=cx hi
  rw[e]
  have hl:∀n:Fin 60,((n.1:Nat):Int).natAbs.log2 < 1920/\(Str.ofString "tops").length+(Str.ofString (toString ((n.1:Nat):Int))).length<=16777216/\(Str.ofString "tops"++Str.ofString (toString ((n.1:Nat):Int))).length+(Str.ofString "/x").length<=16777216:=by decide +kernel
  refine vM (hl ⟨i,hi⟩) fun a1 a2 a3=>?_
  exact⟨a1,a2,a3,q _ _ Grow.refl hg⟩
 refine aE (decide_eq_false h11) ?_
 refine⟨by decide,fun a ha=>?_⟩
 obtain ⟨i,hi,e⟩:=fg (c:=c) (k:=5) (n:=5) rfl (by decide)
 refine x1_3 (uy hi) fun d hd d1 d2=>?_
 refine⟨by decide,ch (af _ _ _) (by rw[e];exact Int.natCast_nonneg _) (by rw[e];exact hd) ?_⟩
 have g0:Grow σ (am σ a (.list [.int 1,.int 1,.int 2,.int 2,.int 3])):=Grow.refl.upd ha
 generalize am σ a (.list [.int 1,.int 1,.int 2,.int 2,.int 3])=σ₁ at g0 ⊢
 refine bT (PartsAt sh 3 σ c) (fun R n=>?_) ?_
 ·refine rc (n:=(d:Int)) ⟨Int.natCast_nonneg _,Int.lt_of_le_of_lt (Int.ofNat_le.mpr d2) (by decide)⟩ ?_
  refine gE (s:=sh) (Nat.le_trans d2 (by decide)) ?_ ?_
  ·intro j σ₂ Q' hj nx
   refine⟨⟨by decide,by decide⟩,l3,fun b hb=>?_⟩
   refine (zM (Nat.lt_of_lt_of_le hj d2) (af _ _ _) fun v hv=>?_)
   refine⟨by rcases hv with rfl | rfl | rfl<;>decide,by decide,?_⟩
   refine (AH fun x σ₃ g3 hx=>?_)
   exact nx x σ₃ ((Grow.refl.upd hb).trans g3) hx
  ·intro xs σ₂ g2 hl hx b hb
   rw[Int.toNat_natCast] at hl
   exact n _ _ ⟨b,xs,(g0.trans g2).upd hb,rfl,rfl,rfl,af _ _ _,by rintro rfl;exact absurd (Nat.le_trans d1 (Nat.le_of_eq hl.symm)) (by decide),Nat.le_trans (Nat.le_of_eq hl) d2,hx⟩
 rintro m σ₂ ⟨b,xs,g,h1,h2,h3,xb,hne,hl,hx⟩
 refine ix (PartsAt sh 8 σ c) (fun R n=>?_) ?_
 ·refine atK.of h2 ⟨by decide,aZ rfl ?_⟩
  by_cases h5:sh % 5=3
  ·refine aI (decide_eq_true h5) ?_
   obtain ⟨k,hk,ek⟩:=fg (c:=sh / 5) (k:=5) (n:=5) rfl (by decide)
   refine atK.of h2 ⟨⟨by decide,by decide⟩,by decide,?_⟩
   rw[ek]
   refine qG (rc (n:=1+(k:Int)) ⟨Int.add_nonneg (by decide) (Int.natCast_nonneg _),Int.lt_of_le_of_lt (Int.add_le_add_left (Int.ofNat_le.mpr (Nat.le_of_lt hk)) 1) (by decide)⟩ ?_)
   rw[show (1+(k:Int)).toNat=k+1 from by rw[Int.add_comm];rfl]
   refine gE (s:=sh) (Nat.le_trans (Nat.succ_le_succ (Nat.le_of_lt hk)) (by decide)) ?_ ?_
   ·intro j σ₃ Q' hj nx
    refine atK.of h2 (AH fun x σ₄ g4 hx=>?_)
    exact nx x σ₄ g4 hx
   ·intro ys σ₃ g3 hyl hy e he
    have hbe:b≠e:=by rintro rfl;rw[g3 _ _ xb] at he;cases he
    have hl8:(ys++xs).length<=8:=by rw[List.length_append,hyl];exact Nat.add_le_add (Nat.succ_le_of_lt hk) hl
    refine atK.of h3 (dY (af _ _ _) ((an hbe).trans (g3 _ _ xb)) (by rw[List.length_map,List.length_map,<-List.length_append];exact Nat.le_trans hl8 (by decide)) fun d hd=>?_)
    rw[<-List.map_append]
    have hall:∀x∈ys++xs,NS sh x:=fun x h=>(List.mem_append.mp h).elim (hy x) (hx x)
    have gd:=((g.trans g3).upd (o:=.list (ys.map .str)) he).upd (o:=.list ((ys++xs).map .str)) hd
    have xd:=af (am σ₃ e (.list (ys.map .str))) d (.list ((ys++xs).map .str))
    generalize am (am σ₃ e (.list (ys.map .str))) d (.list ((ys++xs).map .str))=σ₄ at gd xd ⊢
    have hne':ys++xs≠[]:=fun e=>hne (List.append_eq_nil_iff.mp e).2
    generalize ys++xs=zs at hall xd hne' hl8 ⊢
    refine atK.of h1 ⟨by decide,aZ rfl ?_⟩
    by_cases h13:c % 13=6
    ·refine aI (decide_eq_true h13) ?_
     have hpos:0 < zs.length:=List.length_pos_iff.mpr hne'
     refine atK.of h1 ⟨⟨by decide,by decide⟩,gO xd ?_⟩
     rw[List.length_map]
     refine⟨Int.ofNat_lt.mpr hpos,⟨_,rfl,gD xd fun f hf=>?_⟩⟩
     refine x1_2 (fg (c:=c / 13) (k:=(zs.length:Int)) rfl hpos) fun i hi ei=>?_
     rw[ei,dW _ (Int.add_nonneg (by decide) (Int.natCast_nonneg _)),<-List.map_take]
     exact n _ _ ⟨f,_,gd.upd hf,h1,h2,rfl,af _ _ _,fun e=>(List.take_eq_nil_iff.mp e).elim (fun h=>by rw[Int.add_comm] at h;cases h) hne',Nat.le_trans (List.length_take_le' _ _) hl8,fun x h=>hall x (List.mem_of_mem_take h)⟩
    ·refine aE (decide_eq_false h13) ?_
     exact n _ _ ⟨d,zs,gd,h1,h2,rfl,xd,hne',hl8,hall⟩
  ·refine aE (decide_eq_false h5) ?_
   exact n _ _ ⟨b,xs,g,h1,h2,h3,xb,hne,Nat.le_trans hl (by decide),hx⟩
 rintro m' σ₃ ⟨b,xs,g,h1,h2,h3,xb,hne,hl,hx⟩
 have hg:=Good.of hne hl (fun p hp=>(hx p hp).ok) (NS.here hx)
 refine⟨True.intro,atK.of h3 (cP xb ?_ (q _ _ g hg))⟩
 rw[show (Str.ofString "/").length=1 from rfl,Nat.mul_one]
 exact Nat.le_trans (Nat.add_le_add (kF xs fun p hp=>(hx p hp).ok.hi) hl) (Nat.le_trans (Nat.add_le_add_right (Nat.mul_le_mul_right 12 hl) _) (by decide))
end
theorem p7 {x:Str} {k m:Int} {ns:List Int} {σ:ae} {Q:V->ae->Prop} (hm:(x.length:Int)=m) (h0:0 < m) (hz:x.length < 16777217) (q:∀y:Str,y.length=1->Q (.str y) σ):bl ns (.str x) (.int (k % m)) σ Q:=by
 have a1:=Int.emod_nonneg k (b:=m) (Int.ne_of_gt h0)
 have a2:=Int.emod_lt_of_pos k h0
 generalize k % m=r at a1 a2 ⊢
 have hr:r.toNat < (cl x).length:=by rw[<-ck];exact (Int.toNat_lt a1).mpr (hm▸a2)
 exact .inl (jJ hz a1 (List.getElem?_eq_getElem hr) (q _ rfl))
theorem sm:∀(l:List Str),(∀y∈l,y.length=1)->(l.map (·.length)).sum=l.length
 |[],_=>rfl
 |y::r,h=>by
  rw[List.map_cons,List.sum_cons,sm r fun z hz=>h z (.tail _ hz),h y (.head _),List.length_cons]
  exact Nat.add_comm _ _
theorem sW {a b n:Int} (h:0 < b) (hn:3+b<=n):0<=3+a % b/\3+a % b<=n:=by
 have h1:=Int.emod_nonneg a (Int.ne_of_gt h)
 have h2:=Int.emod_lt_of_pos a h
 omega
theorem Is.mem {K:List Str} {F:Str->Option V} {kvs:List (Str×V)} (h:Is K F kvs) {y:Str}:y∈ag kvs↔F y≠Option.none:=by
 rw[<-h.eq y]
 have:(aT kvs y).isSome=decide (y∈ag kvs):=cv kvs y
 by_cases hy:y∈ag kvs
 ·rw[decide_eq_true hy] at this
  exact⟨fun _ e=>(by rw[e] at this;cases this),fun _=>hy⟩
 ·rw[decide_eq_false hy] at this
  exact⟨fun h=>absurd h hy,fun h=>absurd (Option.not_isSome_iff_eq_none.mp (by rw[this];decide)) h⟩
theorem bC {f:Fi} {y:Str}:fV f y≠Option.none↔f y≠Option.none:=not_congr Option.map_eq_none_iff
theorem eE {kvs:List (Str×V)} {i:Nat} {v:V} (h:(kvs.map fun q=>V.str q.1)[i]?=some v):∃y,(ag kvs)[i]?=some y/\v=.str y:=by
 refine bg (xs:=ag kvs) ?_
 unfold ag;rw[List.map_map];exact h
theorem Ax (x:Str) {n:Nat} (h:x.length<=n) (hn:n+1<=16777216):x.length+(Str.ofString "/").length<=16777216:=Nat.le_trans (Nat.add_le_add_right h 1) hn
section
variable {C:Cx} (G:Gl C Hd.vw) (hz:C.held=none)
include G hz
theorem bP:FnAt C 0 "_law_line_by" (sp__law_line_by C.ns):=by
 apply FnAt.mk (xs:=["_law_k","_law_shift"]) G 16 28<;>(try trivial)
 case hspec=>
 rintro _ σ Q ⟨kk,sh,rfl,q⟩
 refine⟨rfl,?_⟩
 refine⟨by decide +kernel,?_⟩
 have hl:((Str.ofString " !\"#$&'()*+,-./0123456789:;<=>?@ABCDEFGHIJKLMNOPQRSTUVWXYZ[\\]^_`"++Str.ofString "abcdefghijklmnopqrstuvwxyz{|}~\n\t").length:Int)=96:=by decide +kernel
 generalize Str.ofString " !\"#$&'()*+,-./0123456789:;<=>?@ABCDEFGHIJKLMNOPQRSTUVWXYZ[\\]^_`"++Str.ofString "abcdefghijklmnopqrstuvwxyz{|}~\n\t"=S at hl ⊢
 refine⟨by decide,?_⟩
 refine bT (fun m' σ'=>σ'=σ/\m' "_law_k"=some (.int kk)/\m' "_law_shift"=some (.int sh)/\m' "_law_some"=some (.str S)/\∃n:Int,m' "_law_size"=some (.int n)/\0<=n/\n<=603) (fun R n=>?_) ?_
 ·have k1:=Int.emod_nonneg kk (b:=4) (by decide)
  have k2:=Int.emod_lt_of_pos kk (b:=4) (by decide)
  generalize kk % 4=r at k1 k2 ⊢
  refine (aZ rfl ?_)
  by_cases h3:r=3
  ·refine aI (decide_eq_true h3) ?_
   refine⟨by decide,?_⟩
   refine⟨⟨by decide,by decide⟩,by decide,aZ rfl ?_⟩
   by_cases h4:sh / 60 % 4=3
   ·refine aI (decide_eq_true h4) ?_
    refine⟨⟨by decide,by decide⟩,by decide,?_⟩
    exact n _ _ ⟨rfl,rfl,rfl,rfl,_,rfl,sW (by decide) (by decide)⟩
   ·refine aE (decide_eq_false h4) ?_
    exact n _ _ ⟨rfl,rfl,rfl,rfl,_,rfl,sW (by decide) (by decide)⟩
  ·refine aE (decide_eq_false h3) ?_
   exact n _ _ ⟨rfl,rfl,rfl,rfl,_,rfl,k1,Int.le_trans (Int.le_of_lt k2) (by decide)⟩
 rintro m σ' ⟨rfl,hk,hs,ho,n,hn,n1,n2⟩
 obtain ⟨n,rfl⟩:=Int.eq_ofNat_of_zero_le n1
 have n2:n<=603:=Int.ofNat_le.mp n2
 refine⟨True.intro,atK.of hn (rc ⟨n1,Int.lt_of_le_of_lt (Int.ofNat_le.mpr n2) (by decide)⟩ ?_)⟩
 rw[Int.toNat_natCast]
 refine eK (fun s=>s=σ') (fun _ y=>∃x:Str,x.length=1/\y=.str x) (fun _ _=>trivial) _ [] 0 _ _ (by rw[aG];exact Nat.le_trans (Nat.add_le_add_left n2 _) (by decide)) ?_ rfl ?_
 ·rintro i v hv s Q' rfl nx
  obtain ⟨hi,rfl⟩:=aV hv
  refine⟨_,rfl,?_⟩
  refine atK.of ho (atK.of hs (atK.of hk (.inl ⟨.inl (by unfold bS;decide),?_⟩)))
  refine⟨by decide,p7 hl (by decide) (by have:=Int.ofNat_le.mp (Int.le_of_eq hl);exact Nat.lt_of_le_of_lt this (by decide)) fun y hy=>?_⟩
  exact nx _ _ rfl ⟨y,hy,rfl⟩
 ·rintro ys s rfl hl hys b hb
  obtain ⟨xs,rfl,hx⟩:=fE ys fun i y e=>hys i y e
  rw[List.length_map,aG] at hl
  rw[List.nil_append]
  refine cP (ys:=xs) (af _ _ _) (by rw[sS,Nat.mul_zero,sm xs hx,hl];exact Nat.le_trans n2 (by decide)) ?_
  exact q _ _ (Grow.refl.upd hb)
theorem cH:FnAt C 0 "_law_is_free" (sp__law_is_free C.ns):=by
 apply FnAt.mk (xs:=["_law_tree","_law_path"]) G 17 29<;>(try trivial)
 case hspec=>
 rintro _ σ Q ⟨K,a,f,x,rfl,⟨kvs,ep,xa,i⟩,hK,hx,q1,q2⟩
 refine⟨rfl,?_⟩
 refine (om xa ?_)
 refine aC (fun i m σ'=>σ'=σ/\m "_law_path"=some (.str x)/\∀y∈(ag kvs).take i,¬Ab x y/\¬Ab y x) (fun u _ σ'=>σ'=σ/\u=.bool false/\¬free f x) (fun i m σ' h=>by rw[h.1];exact xa) _ ?_ ?_ ?_ _ _ ⟨rfl,rfl,fun _ h=>by cases h⟩
 ·rintro j v m σ' Q' hv ⟨rfl,hm,h⟩ n1 n2 n3
  obtain ⟨y,hy,rfl⟩:=eE hv
  have hmem:=List.mem_of_getElem? hy
  refine⟨_,rfl,?_⟩
  have no:Ab x y\/Ab y x->¬free f x:=fun h hf=>by
   have:=hf y (bC.mp (i.mem.mp hmem))
   exact h.elim this.1 this.2
  refine⟨True.intro,atK.of hm ⟨Ax x hx (by decide),?_⟩⟩
  by_cases h1:Txt.startswith y (x++Str.ofString "/")=true
  ·refine aI h1 ?_
   exact n3 _ _ _ ⟨rfl,rfl,no (.inl h1)⟩
  refine aE (Bool.eq_false_iff.mpr h1) ?_
  refine atK.of hm ⟨True.intro,⟨Ax y (hK y (i.sub y hmem)) (by decide),?_⟩⟩
  by_cases h2:Txt.startswith x (y++Str.ofString "/")=true
  ·refine aI h2 ?_
   exact n3 _ _ _ ⟨rfl,rfl,no (.inr h2)⟩
  refine aE (Bool.eq_false_iff.mpr h2) ?_
  refine n1 _ _ ⟨rfl,hm,fun z hz=>?_⟩
  rw[List.take_add_one,hy] at hz
  rcases List.mem_append.mp hz with hz | hz
  ·exact h z hz
  ·cases List.mem_singleton.mp hz
   exact⟨h1,h2⟩
 ·rintro m σ' ⟨rfl,hm,h⟩
  refine q1 fun y hy=>h y ?_
  rw[List.length_map,<-List.length_map (f:=(·.1)) (as:=kvs)]
  show y∈(ag kvs).take (ag kvs).length
  rw[List.take_length]
  exact i.mem.mpr (bC.mpr hy)
 ·rintro u m σ' ⟨rfl,rfl,h⟩
  exact q2 h
end
theorem je (kvs:List (Str×V)) (k:Str) (v:V) (x:Str):aT (aR kvs k v) x=if x=k then some v else aT kvs x:=by
 unfold aT aR
 by_cases h:(kvs.any fun kv=>kv.1=k)=true
 ·rw[if_pos h]
  induction kvs with
  |nil=>cases h
  |cons q r ih=>
   rw[List.map_cons,List.find?_cons,List.find?_cons]
   by_cases hq:q.1=k
   ·rw[if_pos hq]
    by_cases hx:x=k
    ·rw[if_pos hx,decide_eq_true (by rw[hq,hx])];rfl
    ·rw[if_neg hx,decide_eq_false (by rw[hq];exact Ne.symm hx)]
     show Option.map _ (List.find? _ (r.map _))=Option.map _ (List.find? _ r)
     clear ih h
     induction r with
     |nil=>rfl
     |cons p r ih=>
      rw[List.map_cons,List.find?_cons,List.find?_cons]
      by_cases hp:p.1=k
      ·rw[if_pos hp,decide_eq_false (by rw[hp];exact Ne.symm hx)];exact ih
      ·rw[if_neg hp]
       cases decide (p.1=x) with
       |true=>rfl
       |false=>exact ih
   ·rw[if_neg hq]
    by_cases e:q.1=x
    ·rw[decide_eq_true e,if_neg (by rw[<-e];exact hq)]
    ·rw[decide_eq_false e]
     exact ih (by rw[List.any_cons,decide_eq_false hq] at h;exact h)
 ·rw[if_neg h,List.find?_append]
  have h':=Bool.eq_false_iff.mpr h
  by_cases hx:x=k
  ·have:(kvs.find? fun kv=>kv.1=x)=Option.none:=List.find?_eq_none.mpr fun q hq e=>h (List.any_eq_true.mpr ⟨q,hq,by rw[<-hx];exact e⟩)
   rw[this,if_pos hx,List.find?_cons,decide_eq_true hx.symm];rfl
  ·rw[if_neg hx,List.find?_cons,decide_eq_false (Ne.symm hx)]
   cases kvs.find? fun kv=>decide (kv.1=x)<;>rfl
theorem oA (kvs:List (Str×V)) (k:Str) (x:Str):aT (dC kvs k) x=if x=k then Option.none else aT kvs x:=by
 unfold aT dC
 rw[List.find?_filter]
 by_cases hx:x=k
 ·rw[if_pos hx,List.find?_eq_none.mpr]
  ·rfl
  ·intro q _ e
   refine bH (of_decide_eq_true e) fun e1 e2=>?_
   exact of_decide_eq_true e1 ((of_decide_eq_true e2).trans hx)
 ·rw[if_neg hx]
  refine congrArg (Option.map _) (congrArg (List.find? · kvs) (funext fun q=>?_))
  by_cases e:q.1=x
  ·rw[decide_eq_true e];exact decide_eq_true ⟨decide_eq_true (by rw[e];exact hx),rfl⟩
  ·rw[decide_eq_false e];exact decide_eq_false fun h=>by cases h.2
theorem Is.store {K:List Str} {F:Str->Option V} {kvs:List (Str×V)} (h:Is K F kvs) {x:Str} {v:V} (hx:x∈K):Is K (bF F x (some v)) (aR kvs x v):=
 ⟨fun y hy=>((dB kvs x v y).mp hy).elim (fun e=>e▸hx) (h.sub y),cX h.nd,fun y=>by rw[je,h.eq];rfl⟩
theorem Is.out {K:List Str} {F:Str->Option V} {kvs:List (Str×V)} (h:Is K F kvs) {x:Str}:Is K (bF F x Option.none) (dC kvs x):=
 ⟨fun y hy=>h.sub y ((mY kvs x y).mp hy).2,kz h.nd,fun y=>by rw[oA,h.eq];rfl⟩
theorem Is.more {K K':List Str} {F:Str->Option V} {kvs:List (Str×V)} (h:Is K F kvs) (k:∀x∈K,x∈K'):Is K' F kvs:=⟨fun x hx=>k x (h.sub x hx),h.nd,h.eq⟩
theorem Is.len {K:List Str} {F:Str->Option V} {kvs:List (Str×V)} (h:Is K F kvs):kvs.length<=K.length:=by
 have:=List.Nodup.length_le_of_subset h.nd fun x hx=>h.sub x hx
 unfold ag at this;rw[List.length_map] at this;exact this
theorem Is.nil {K:List Str}:Is K (fun _=>Option.none) []:=⟨fun _ h=>(by cases h),List.nodup_nil,fun _=>rfl⟩
theorem DAt.grow {K:List Str} {F:Str->Option V} {a:Addr} {σ σ':ae} (h:DAt K F a σ) (g:Grow σ σ'):DAt K F a σ':=let ⟨kvs,ep,e,i⟩:=h;⟨kvs,ep,g _ _ e,i⟩
theorem DAt.more {K K':List Str} {F:Str->Option V} {a:Addr} {σ:ae} (h:DAt K F a σ) (k:∀x∈K,x∈K'):DAt K' F a σ:=let ⟨kvs,ep,e,i⟩:=h;⟨kvs,ep,e,i.more k⟩
theorem fK {α β:Type} (u:α->β) (f:Str->Option α) (x:Str) (o:Option α):(fun z=>(bF f x o z).map u)=bF (fun z=>(f z).map u) x (o.map u):=by
 funext z
 show Option.map u (if z=x then o else f z)=if z=x then o.map u else (f z).map u
 by_cases h:z=x
 ·rw[if_pos h,if_pos h]
 ·rw[if_neg h,if_neg h]
theorem jv {K:List Str} {nm:String} {m:aq} {σ:ae} {t:Addr} {kt:List (Str×V)} {et:Nat} {us:List Str} {inv:ae->Prop} {Q:Fl->aq->ae->Prop} (hn:nm≠"path") (hm:m nm=some (.ref t)) (xt:σ t=some (.dict kt et)) (hinv:∀σ',(∀b,b≠t->σ' b=σ b)->inv σ')
  (hK:K.length<=1000) (n0:(ag kt).Nodup) (s0:∀x∈ag kt,x∈K) (s1:∀x∈us,x∈K)
  (q:∀m' σ' kt' et',(∀s,s≠"path"->m' s=m s)->σ' t=some (.dict kt' et')->(∀b,b≠t->σ' b=σ b)->(ag kt').Nodup->(∀x,x∈ag kt'↔x∈ag kt\/x∈us)->Q .next m' σ') :
  gm (.name "path") inv (gM (cC dg (br (.bool true)) (aO nm) (aO "path")) iy) (us.map .str) m σ Q:=by
 refine aC (fun i m' σ'=>(∀s,s≠"path"->m' s=m s)/\(∀b,b≠t->σ' b=σ b)/\∃kt' et',σ' t=some (.dict kt' et')/\(ag kt').Nodup/\∀x,x∈ag kt'↔x∈ag kt\/x∈us.take i) (fun _ _ _=>False)
  (fun i m' σ' h=>hinv σ' h.2.1) _ ?_ ?_ (fun _ _ _ h=>h.elim) _ _ ⟨fun _ _=>rfl,fun _ _=>rfl,kt,et,xt,n0,fun x=>⟨.inl,fun h=>h.elim id fun h=>by cases h⟩⟩
 ·rintro i v m' σ' Q' hv ⟨h1,h2,kt',et',h3,h4,h5⟩ n1 n2 n3
  obtain ⟨y,hy,rfl⟩:=bg hv
  refine⟨_,rfl,?_⟩
  have hsub:∀x∈ag kt',x∈K:=fun x hx=>((h5 x).mp hx).elim (s0 x) fun h=>s1 x (List.mem_of_mem_take h)
  have hl:kt'.length<=1000:=by
   have:=List.Nodup.length_le_of_subset h4 fun x hx=>hsub x hx
   unfold ag at this;rw[List.length_map] at this;exact Nat.le_trans this hK
  refine atK.of ((aj hn).trans ((h1 nm hn).trans hm)) ((cY h3 (Nat.lt_of_le_of_lt hl (by decide)) fun ep'=>?_))
  refine n1 _ _ ⟨fun s hs=>(aj hs).trans (h1 s hs),fun b hb=>(an hb).trans (h2 b hb),_,ep',af _ _ _,cX h4,fun x=>(dB kt' y _ x).trans ?_⟩
  rw[List.take_add_one,hy]
  constructor
  ·rintro (rfl | h)
   ·exact .inr (List.mem_append_right _ (.head _))
   ·exact ((h5 x).mp h).imp id (List.mem_append_left _)
  ·rintro (h | h)
   ·exact .inr ((h5 x).mpr (.inl h))
   ·rcases List.mem_append.mp h with h | h
    ·exact .inr ((h5 x).mpr (.inr h))
    ·exact .inl (List.mem_singleton.mp h)
 ·rintro m' σ' ⟨h1,h2,kt',et',h3,h4,h5⟩
  rw[List.length_map,List.take_length] at h5
  exact q m' σ' kt' et' h1 h3 h2 h4 h5
theorem eC {K:List Str} {m:aq} {σ:ae} {t a:Addr} {kt kvs:List (Str×V)} {et e:Nat} {Q:Fl->aq->ae->Prop} (hm:m "found"=some (.ref t)) (xt:σ t=some (.dict kt et)) (xa:σ a=some (.dict kvs e)) (hat:a≠t)
  (hK:K.length<=1000) (n0:(ag kt).Nodup) (s0:∀x∈ag kt,x∈K) (s1:∀x∈ag kvs,x∈K)
  (q:∀m' σ' kt' et',(∀s,s≠"path"->m' s=m s)->σ' t=some (.dict kt' et')->(∀b,b≠t->σ' b=σ b)->(ag kt').Nodup->(∀x,x∈ag kt'↔x∈ag kt\/x∈ag kvs)->Q .next m' σ') :
  gm (.name "path") (fun σ=>σ a=some (.dict kvs e)) (gM (cC dg (br (.bool true)) (aO "found") (aO "path")) iy) (kvs.map fun q=>.str q.1) m σ Q:=by
 have:=jv (inv:=fun σ=>σ a=some (.dict kvs e)) (by decide) hm xt (fun σ' h=>(h a hat).trans xa) hK n0 s0 s1 q
 unfold ag at this
 rw[List.map_map] at this
 exact this
section
variable {C:Cx} (G:Gl C Hd.vw) (hz:C.held=none)
include G hz
theorem e7:FnAt C 0 "all_paths" (sp_all_paths C.ns):=by
 apply FnAt.mk (xs:=["elder","one","other"]) G 5 16<;>(try trivial)
 case hspec=>
 rintro _ σ Q ⟨K,a,b,c,f,g,h,rfl,d,q⟩
 refine⟨rfl,?_⟩
 obtain ⟨⟨ka,e1,xa,ia⟩,⟨kb,e2,xb,ib⟩,⟨kc,e3,xc,ic⟩,hK⟩:=d
 intro t ep ht
 have ta:a≠t:=by rintro rfl;rw[xa] at ht;cases ht
 have tb:b≠t:=by rintro rfl;rw[xb] at ht;cases ht
 have tc:c≠t:=by rintro rfl;rw[xc] at ht;cases ht
 have g0:Grow σ (am σ t (.dict [] ep)):=Grow.refl.upd ht
 have xt:=af σ t (.dict [] ep)
 generalize am σ t (.dict [] ep)=σ₀ at g0 xt ⊢
 refine⟨l3,fun l hl=>i6 (af _ _ _) ?_⟩
 have lt:l≠t:=by rintro rfl;rw[xt] at hl;cases hl
 have g1:=g0.upd (o:=.list [.ref a,.ref b,.ref c]) hl
 have xt1:am σ₀ l (.list [.ref a,.ref b,.ref c]) t=some (.dict [] ep):=(an lt.symm).trans xt
 have xl:=af σ₀ l (.list [.ref a,.ref b,.ref c])
 generalize am σ₀ l (.list [.ref a,.ref b,.ref c])=σ₁ at g1 xt1 xl ⊢
 refine⟨xl,_,rfl,om (g1 _ _ xa) ?_⟩
 refine eC rfl xt1 (g1 _ _ xa) ta hK.few List.nodup_nil (fun _ h=>by cases h) ia.sub fun m1 s1 k1 p1 i1 t1 o1 n1 j1=>?_
 refine⟨(o1 l lt).trans xl,_,rfl,om ((o1 b tb).trans (g1 _ _ xb)) ?_⟩
 have s1:∀x∈ag k1,x∈K:=fun x hx=>ia.sub x (((j1 x).mp hx).resolve_left fun h=>by cases h)
 refine eC ((i1 "found" (by decide)).trans rfl) t1 ((o1 b tb).trans (g1 _ _ xb)) tb hK.few n1 s1 ib.sub fun m2 s2 k2 p2 i2 t2 o2 n2 j2=>?_
 refine⟨((o2 l lt).trans (o1 l lt)).trans xl,_,rfl,om (((o2 c tc).trans (o1 c tc)).trans (g1 _ _ xc)) ?_⟩
 refine eC ((i2 "found" (by decide)).trans ((i1 "found" (by decide)).trans rfl)) t2 (((o2 c tc).trans (o1 c tc)).trans (g1 _ _ xc)) tc hK.few n2 (fun x hx=>((j2 x).mp hx).elim (s1 x) (ib.sub x)) ic.sub fun m3 s3 k3 p3 i3 t3 o3 n3 j3=>?_
 refine⟨((o3 l lt).trans ((o2 l lt).trans (o1 l lt))).trans xl,?_⟩
 refine .inl (atK.of ((i3 "found" (by decide)).trans ((i2 "found" (by decide)).trans ((i1 "found" (by decide)).trans rfl))) ⟨t,k3,p3,rfl,t3,fun ks hp r hr=>?_⟩)
 have gf:Grow σ s3:=fun x o e=>by
  have hx:x≠t:=by rintro rfl;rw[e] at ht;cases ht
  exact ((o3 x hx).trans ((o2 x hx).trans (o1 x hx))).trans (g1 _ _ e)
 refine q ks ⟨hp.symm.nodup n3,fun x=>?_⟩ r _ (gf.upd hr) (gf.none hr) (af _ _ _)
 rw[hp.mem_iff,<-bC,<-bC,<-bC,<-ia.mem,<-ib.mem,<-ic.mem]
 refine (j3 x).trans ?_
 rw[j2 x,j1 x,or_assoc,or_assoc]
 exact⟨fun h=>h.resolve_left fun h=>(by cases h),.inr⟩
end
theorem ak {xs:List String} {m:aq} {x y:String} {v:V} (hy:y∉xs) (hx:x∈xs):put m x v y=m y:=aj fun e=>hy (e▸hx)
structure Lp (t:Addr) (o:AObj) (xs:List String) (m₀:aq) (σ₀:ae) (m:aq) (σ':ae):Prop where
 s:∀d,d≠t->σ' d=σ₀ d
 x:σ' t=some o
 m:∀y,y∉xs->m y=m₀ y
theorem Lp.set {t:Addr} {o o':AObj} {xs:List String} {m₀ m m':aq} {σ₀ σ':ae} (I:Lp t o xs m₀ σ₀ m σ') (h:∀y,y∉xs->m' y=m y):Lp t o' xs m₀ σ₀ m' (am σ' t o'):=
 ⟨fun d hd=>(an hd).trans (I.s d hd),af _ _ _,fun y hy=>(h y hy).trans (I.m y hy)⟩
theorem Lp.at {t:Addr} {o o':AObj} {xs:List String} {m₀ m m':aq} {σ₀ σ':ae} (I:Lp t o xs m₀ σ₀ m σ') (e:o=o') (h:∀y,y∉xs->m' y=m y):Lp t o' xs m₀ σ₀ m' σ':=
 ⟨I.s,e▸I.x,fun y hy=>(h y hy).trans (I.m y hy)⟩
theorem Lp.grow {t:Addr} {o:AObj} {xs:List String} {m₀ m:aq} {σ σ₀ σ':ae} (I:Lp t o xs m₀ σ₀ m σ') (ht:σ t=Option.none) (g:Grow σ σ₀):Grow σ σ':=fun d o' e=>
 (I.s d (by rintro rfl;rw[ht] at e;cases e)).trans (g d o' e)
theorem mF {α:Type} {β:Type} (f:α->Option β) (l:List α) {i:Nat} {y:α} (h:l[i]?=some y):(l.take (i+1)).filterMap f=(l.take i).filterMap f++(f y).toList:=by
 rw[List.take_add_one,h,List.filterMap_append]
 refine congrArg (_++·) ?_
 show List.filterMap f [y]=_
 rw[List.filterMap_cons]
 cases f y<;>rfl
theorem um {α:Type} {β:Type} (f:α->Option β) (l:List α) (i:Nat):((l.take i).filterMap f).length<=l.length:=
 Nat.le_trans (List.length_filterMap_le f (l.take i)) (List.length_take_le' i l)
theorem D3.grow {K:List Str} {a b c:Addr} {f g h:Fi} {σ σ':ae} (d:D3 K a b c f g h σ) (k:Grow σ σ'):D3 K a b c f g h σ':=⟨d.ta.grow k,d.tb.grow k,d.tc.grow k,d.un⟩
theorem DAt.sub {K:List Str} {f:Fi} {a:Addr} {σ:ae} (h:DAt K (fV f) a σ) {x:Str} (hx:f x≠Option.none):x∈K:=let ⟨_,_,_,i⟩:=h;i.sub x (i.mem.mpr (bC.mpr hx))
theorem D3.len {K:List Str} {a b c:Addr} {f g h:Fi} {σ:ae} (d:D3 K a b c f g h σ) {ks:List Str} (hk:Al f g h ks):ks.length<=1000:=
 Nat.le_trans (List.Nodup.length_le_of_subset hk.nd fun x hx=>((hk.mem x).mp hx).elim d.ta.sub fun h=>h.elim d.tb.sub d.tc.sub) d.un.few
theorem lP (a b:Option Str):veq0 (cW a) (cW b)=some (decide (a=b)):=by
 cases a with
 |none=>cases b with
  |none=>rfl
  |some y=>rfl
 |some x=>cases b with
  |none=>rfl
  |some y=>exact congrArg some (decide_eq_decide.mpr ⟨fun h=>h▸rfl,Option.some.inj⟩)
section
variable {ns:List Int} {σ:ae} {Q:V->ae->Prop}
theorem u8 {a b:Option Str} (q:Q (.bool (decide (a=b))) σ):ni (cW a) (cW b) σ Q:=aZ (lP a b) q
theorem AI {a b:Option Str} (q:Q (.bool (!decide (a=b))) σ):po (cW a) (cW b) σ Q:=pL (lP a b) q
theorem bZ {K:List Str} {f:Fi} {a:Addr} {x:Str} (h:DAt K (fV f) a σ) (q:Q (cW (f x)) σ):fz (.ref a) σ/\l4 [.ref a,.str x] σ Q:=by
 obtain ⟨kvs,ep,e,i⟩:=h
 refine⟨⟨kvs,ep,e⟩,qf e ?_⟩
 rw[i.eq x]
 unfold fV
 cases hf:f x with
 |none=>rw[hf] at q;exact q
 |some y=>rw[hf] at q;exact q
theorem oV {K:List Str} {a b c:Addr} {f g h:Fi} (d:D3 K a b c f g h σ) (q:∀ks,Al f g h ks->e8 (ks.map .str) σ Q):sp_all_paths ns [.ref a,.ref b,.ref c] σ Q:=⟨K,a,b,c,f,g,h,rfl,d,q⟩
theorem vX {K:List Str} {a b c:Addr} {f g h:Fi} (d:D3 K a b c f g h σ) (q:∀ks,Al f g h ks->e8 (ks.filterMap (qL f g h)) σ Q):sp_marks ns [.ref a,.ref b,.ref c] σ Q:=⟨K,a,b,c,f,g,h,rfl,d,q⟩
end
section
variable {C:Cx} (G:Gl C Hd.vw) (hz:C.held=none)
include G hz
theorem rO:FnAt C 1 "marks" (sp_marks C.ns):=by
 have h0:=e7 G hz
 apply FnAt.mk (xs:=["elder","one","other"]) G 6 17<;>(try trivial)
 case hspec=>
 rintro _ σ Q ⟨K,a,b,c,f,g,h,rfl,d,q⟩
 refine⟨rfl,?_⟩
 refine⟨by decide,fun t ht=>?_⟩
 have g0:Grow σ (am σ t (.list [])):=Grow.refl.upd ht
 refine oV (d.grow g0) fun ks hks l σ₂ g2 hl xl=>?_
 refine i6 xl ?_
 have lt:l≠t:=by rintro rfl;rw[af] at hl;cases hl
 have g02:=g0.trans g2
 have hk:=d.len hks
 refine aC (fun i m σ'=>Lp t (.list ((ks.take i).filterMap (qL f g h))) ["path","was","mine","theirs"] _ σ₂ m σ') (fun _ _ _=>False)
  (fun i m σ' h=>(h.s l lt).trans xl) _ ?_ ?_ (fun _ _ _ h=>h.elim) _ _ ⟨fun _ _=>rfl,g2 _ _ (af _ _ _),fun _ _=>rfl⟩
 ·intro i v m σ' Q' hv I n1 n2 n3
  obtain ⟨y,hy,rfl⟩:=bg hv
  have dd:=d.grow (I.grow ht g02)
  have h3:m "told"=some (.ref t):=I.m _ (by decide)
  have hm:∀s,s∉["path","was","mine","theirs"]->put (put (put (put m "path" (.str y)) "was" (cW (f y))) "mine" (cW (g y))) "theirs" (cW (h y)) s=m s:=fun s hs=>by
   rw[ak hs (by decide),ak hs (by decide),ak hs (by decide),ak hs (by decide)]
  have skip:qL f g h y=Option.none->Q' .next (put (put (put (put m "path" (.str y)) "was" (cW (f y))) "mine" (cW (g y))) "theirs" (cW (h y))) σ':=fun hu=>
   n1 _ _ (I.at (by rw[mF _ _ hy,hu,Option.toList_none,List.append_nil]) hm)
  have put1:∀(u:Str),qL f g h y=some (V.tup [.str y,.str u])->b6 [.ref t,.tup [.str y,.str u]] σ' fun x σ''=>Q' .next (put (put (put (put m "path" (.str y)) "was" (cW (f y))) "mine" (cW (g y))) "theirs" (cW (h y))) σ'':=fun u hu=>
   aD I.x (Nat.lt_of_le_of_lt (Nat.le_trans (um _ _ _) hk) (by decide)) (n1 _ _ (by rw[mF _ _ hy,hu];exact I.set hm))
  have ty:d7 (.ref t) σ':=⟨_,I.x⟩
  refine⟨_,rfl,?_⟩
  refine atK.of (I.m "elder" (by decide)) (bZ dd.ta ?_)
  refine atK.of (I.m "one" (by decide)) (bZ dd.tb ?_)
  refine atK.of (I.m "other" (by decide)) (bZ dd.tc ?_)
  unfold qL at put1 skip
  clear hm
  generalize f y=w at put1 skip ⊢
  generalize g y=mi at put1 skip ⊢
  generalize h y=th at put1 skip ⊢
  unfold f9 at put1 skip
  refine u8 ?_
  by_cases k1:mi=th
  ·rw[if_pos k1] at put1 skip
   refine aI (decide_eq_true k1) ?_
   refine AI ?_
   by_cases k2:mi=w
   ·rw[if_pos k2] at skip
    refine aE (congrArg not (decide_eq_true k2)) ?_
    exact skip rfl
   ·rw[if_neg k2] at put1
    refine aI (congrArg not (decide_eq_false k2)) ?_
    refine atK.of h3 ⟨ty,l2,?_⟩
    exact put1 _ rfl
  ·rw[if_neg k1] at put1
   refine aE (decide_eq_false k1) ?_
   refine u8 ?_
   by_cases k2:th=w
   ·rw[if_pos k2] at put1
    refine aI (decide_eq_true k2) ?_
    refine atK.of h3 ⟨ty,l2,?_⟩
    exact put1 _ rfl
   ·rw[if_neg k2] at put1
    refine aE (decide_eq_false k2) ?_
    refine u8 ?_
    by_cases k3:mi=w
    ·rw[if_pos k3] at put1
     refine aI (decide_eq_true k3) ?_
     refine atK.of h3 ⟨ty,l2,?_⟩
     exact put1 _ rfl
    ·rw[if_neg k3] at put1
     refine aE (decide_eq_false k3) ?_
     refine atK.of h3 ⟨ty,l2,?_⟩
     exact put1 _ rfl
 ·intro m σ' I
  rw[List.length_map,List.take_length] at I
  refine atK.of (I.m "told" (by decide)) ?_
  exact q ks hks t σ' (I.grow ht g02) ht I.x
end
noncomputable def z9:V->Option V
 |.tup [.str x,.str u]=>if u=Str.ofString "clash" then some (.str x) else Option.none
 |_=>Option.none
theorem mQ {x u:Str}:z9 (.tup [.str x,.str u])=if u=Str.ofString "clash" then some (.str x) else Option.none:=rfl
theorem mB {w m t:Option Str}:f9 w m t=some (Str.ofString "clash")↔iJ w m t=true:=by
 have a1:∀y∈["alike","one","other"],¬some (Str.ofString y)=some (Str.ofString "clash"):=by decide +kernel
 unfold f9 iJ
 by_cases k1:m=t
 ·rw[if_pos k1,decide_eq_true k1]
  by_cases k2:m=w
  ·rw[if_pos k2];exact⟨fun h=>(by cases h),fun h=>(by cases h)⟩
  ·rw[if_neg k2];exact⟨fun h=>absurd h (a1 _ (by decide)),fun h=>(by cases h)⟩
 ·rw[if_neg k1,decide_eq_false k1]
  by_cases k2:t=w
  ·rw[if_pos k2,decide_eq_true k2]
   refine⟨fun h=>absurd h (a1 _ (by decide)),fun h=>?_⟩
   rw[Bool.not_true,Bool.and_false] at h;cases h
  ·rw[if_neg k2,decide_eq_false k2]
   by_cases k3:m=w
   ·rw[if_pos k3,decide_eq_true k3];exact⟨fun h=>absurd h (a1 _ (by decide)),fun h=>(by cases h)⟩
   ·rw[if_neg k3,decide_eq_false k3];exact⟨fun _=>rfl,fun _=>rfl⟩
theorem rS {f g h:Fi} {ks:List Str} (hk:Al f g h ks):∃cs:List Str,(ks.filterMap (qL f g h)).filterMap z9=cs.map V.str/\(∀x,x∈cs↔fp f g h x=true)/\cs.length<=ks.length:=by
 refine⟨ks.filter fun x=>fp f g h x,?_,fun x=>?_,List.length_filter_le _ _⟩
 ·rw[List.filterMap_filterMap]
  clear hk
  induction ks with
  |nil=>rfl
  |cons x ks ih=>
   by_cases hc:fp f g h x=true
   ·rw[List.filter_cons_of_pos hc,List.map_cons,<-ih]
    refine List.filterMap_cons_some ?_
    unfold qL
    rw[mB.mpr hc]
    exact (mQ).trans (if_pos rfl)
   ·rw[List.filter_cons_of_neg hc,<-ih]
    refine List.filterMap_cons_none ?_
    unfold qL
    cases e:f9 (f x) (g x) (h x) with
    |none=>rfl
    |some u=>exact (mQ).trans (if_neg fun hu=>hc (mB.mp (by rw[e,hu])))
 ·rw[List.mem_filter]
  refine⟨fun h=>h.2,fun hc=>⟨(hk.mem x).mpr ?_,hc⟩⟩
  by_cases ha:f x=Option.none
  ·by_cases hb:g x=Option.none
   ·refine .inr (.inr fun hh=>?_)
    unfold fp iJ at hc
    rw[ha,hb,hh] at hc
    cases hc
   ·exact .inr (.inl hb)
  ·exact .inl ha
section
variable {C:Cx} (G:Gl C Hd.vw) (hz:C.held=none)
include G hz
theorem ds:FnAt C 2 "clashing" (sp_clashing C.ns):=by
 have h0:=rO G hz
 apply FnAt.mk (xs:=["elder","one","other"]) G 7 18<;>(try trivial)
 case hspec=>
 rintro _ σ Q ⟨K,a,b,c,f,g,h,rfl,d,q⟩
 refine⟨rfl,?_⟩
 refine vX d fun ks hks l σ₁ g1 hl xl=>?_
 refine i6 xl ?_
 have ml:(ks.filterMap (qL f g h)).length<=1000:=Nat.le_trans (List.length_filterMap_le _ _) (d.len hks)
 refine x1_3 (rS hks) fun cs ec mc lc=>?_
 refine bK (fun s=>s=σ₁) (fun s hs=>by rw[hs];exact xl) z9 _ _ _ _ (Nat.le_trans (Nat.add_le_add_left ml _) (by decide)) ?_ rfl ?_
 ·rintro v hv s Q₁ Q₂ rfl n1 n2
  refine x1_2 (List.mem_filterMap.mp hv) fun x _ hx=>?_
  obtain ⟨u,_,rfl⟩:=Option.map_eq_some_iff.mp hx
  refine⟨_,rfl,?_⟩
  refine (aZ rfl ?_)
  by_cases h:u=Str.ofString "clash"
  ·refine aI (decide_eq_true h) ?_
   exact n1 _ _ rfl (if_pos h)
  ·refine aE (decide_eq_false h) ?_
   exact n2 _ rfl (if_neg h)
 ·rintro s rfl r hr
  rw[List.nil_append,ec]
  exact q cs mc (Nat.le_trans lc (d.len hks)) r _ (g1.upd hr) (g1.none hr) (af _ _ _)
end
theorem kg (x:Str):∀ys:List Str,bW (.str x) (ys.map .str)=some (decide (x∈ys))
 |[]=>rfl
 |y::r=>by
  have ih:=kg x r
  rw[List.map_cons]
  unfold bW
  rw[ih]
  show some (decide (y=x)||decide (x∈r))=_
  refine congrArg some ?_
  by_cases h:y=x
  ·rw[decide_eq_true h,Bool.true_or];exact (decide_eq_true (h▸.head _)).symm
  ·rw[decide_eq_false h,Bool.false_or]
   by_cases h2:x∈r
   ·rw[decide_eq_true h2];exact (decide_eq_true (.tail _ h2)).symm
   ·rw[decide_eq_false h2];exact (decide_eq_false fun hh=>(List.mem_cons.mp hh).elim (fun e=>h e.symm) h2).symm
theorem Is.congr {K:List Str} {F F':Str->Option V} {kvs:List (Str×V)} (h:Is K F kvs) (e:∀x,F x=F' x):Is K F' kvs:=⟨h.sub,h.nd,fun x=>(h.eq x).trans (e x)⟩
noncomputable def part (S:List Str) (F:Str->Option V):Str->Option V:=fun x=>if x∈S then F x else Option.none
theorem fT {S:List Str} {F:Str->Option V} {y:Str} {v:V} (h:F y=some v):∀x,bF (part S F) y (some v) x=part (S++[y]) F x:=fun x=>by
 unfold bF part
 by_cases e:x=y
 ·rw[if_pos e,if_pos (List.mem_append_right _ (e▸.head _)),e,h]
 ·rw[if_neg e]
  by_cases m:x∈S
  ·rw[if_pos m,if_pos (List.mem_append_left _ m)]
  ·rw[if_neg m,if_neg fun hh=>(List.mem_append.mp hh).elim m fun hh=>e (List.mem_singleton.mp hh)]
theorem eA {S:List Str} {F:Str->Option V} {y:Str} (h:F y=Option.none):∀x,part S F x=part (S++[y]) F x:=fun x=>by
 unfold part
 by_cases m:x∈S
 ·rw[if_pos m,if_pos (List.mem_append_left _ m)]
 ·rw[if_neg m]
  by_cases e:x=y
  ·rw[if_pos (List.mem_append_right _ (e▸.head _)),e,h]
  ·rw[if_neg fun hh=>(List.mem_append.mp hh).elim m fun hh=>e (List.mem_singleton.mp hh)]
theorem fW {S:List Str} {F:Str->Option V} (h:∀x,F x≠Option.none->x∈S):∀x,part S F x=F x:=fun x=>by
 unfold part
 by_cases m:x∈S
 ·rw[if_pos m]
 ·rw[if_neg m]
  exact (Classical.byContradiction fun hh=>m (h x fun e=>hh e.symm))
theorem fU {F:Str->Option V}:∀x,Option.none=part [] F x:=fun _=>rfl
inductive LpD (K:List Str) (t:Addr) (F:Str->Option V) (xs:List String) (m₀:aq) (σ₀:ae) (m:aq) (σ':ae):Prop
 |mk (kvs:List (Str×V)) (ep:Nat) (l:Lp t (.dict kvs ep) xs m₀ σ₀ m σ') (i:Is K F kvs):LpD K t F xs m₀ σ₀ m σ'
theorem oS {f g h:Fi} {x:Str} (e:st f g h x≠Option.none):f x≠Option.none\/g x≠Option.none\/h x≠Option.none:=by
 by_cases hg:g x=Option.none
 ·by_cases hh:h x=Option.none
  ·unfold st sq at e
   rw[hg,hh] at e
   exfalso
   revert e
   cases iJ (f x) Option.none Option.none with
   |true=>intro e;exact e rfl
   |false=>intro e;apply e;show (if Option.none=f x then Option.none else Option.none)=Option.none;split<;>rfl
  ·exact .inr (.inr hh)
 ·exact .inr (.inl hg)
section
variable {ns:List Int} {σ:ae} {Q:V->ae->Prop}
theorem oU {K:List Str} {a b c:Addr} {f g h:Fi} (d:D3 K a b c f g h σ) (q:∀cs:List Str,(∀x,x∈cs↔fp f g h x=true)->cs.length<=1000->e8 (cs.map .str) σ Q):sp_clashing ns [.ref a,.ref b,.ref c] σ Q:=⟨K,a,b,c,f,g,h,rfl,d,q⟩
theorem sr {K:List Str} {a b c:Addr} {f g h:Fi} (d:D3 K a b c f g h σ) (q:kZ K (fV (st f g h)) σ Q):sp_standing ns [.ref a,.ref b,.ref c] σ Q:=⟨K,a,b,c,f,g,h,rfl,d,q⟩
end
section
variable {C:Cx} (G:Gl C Hd.vw) (hz:C.held=none)
include G hz
theorem gp:FnAt C 3 "standing" (sp_standing C.ns):=by
 have h0:=ds G hz
 have h1:=e7 G hz
 apply FnAt.mk (xs:=["elder","one","other"]) G 8 19<;>(try trivial)
 case hspec=>
 rintro _ σ Q ⟨K,a,b,c,f,g,h,rfl,d,q⟩
 refine⟨rfl,?_⟩
 refine oU d fun cs hcs _ w σ₁ g1 hw xw=>?_
 intro t ep ht
 have wt:w≠t:=by rintro rfl;rw[xw] at ht;cases ht
 have g2:Grow σ₁ (am σ₁ t (.dict [] ep)):=Grow.refl.upd ht
 have xt:=af σ₁ t (.dict [] ep)
 have g12:=g1.trans g2
 have ht0:=g1.none ht
 generalize am σ₁ t (.dict [] ep)=σ₂ at g2 xt g12 ⊢
 refine oV (d.grow g12) fun ks hks l σ₃ g3 hl xl=>?_
 refine i6 xl ?_
 have lt:l≠t:=by rintro rfl;rw[xt] at hl;cases hl
 have g03:=g12.trans g3
 have xw3:=g3 _ _ (g2 _ _ xw)
 refine aC (fun i m σ'=>LpD K t (part (ks.take i) (fV (st f g h))) ["path","text"] _ σ₃ m σ') (fun _ _ _=>False)
  (fun i m σ' ⟨_,_,h,_⟩=>(h.s l lt).trans xl) _ ?_ ?_ (fun _ _ _ h=>h.elim) _ _ ⟨[],ep,⟨fun _ _=>rfl,g3 _ _ xt,fun _ _=>rfl⟩,Is.nil.congr fU⟩
 ·rintro i v m σ' Q' hv ⟨kvs,ep',I,ii⟩ n1 n2 n3
  obtain ⟨y,hy,rfl⟩:=bg hv
  have dd:=d.grow (I.grow ht0 g03)
  have hyK:y∈K:=((hks.mem y).mp (List.mem_of_getElem? hy)).elim d.ta.sub fun h=>h.elim d.tb.sub d.tc.sub
  refine⟨_,rfl,?_⟩
  refine atK.of (I.m "one" (by decide)) (bZ dd.tb ?_)
  refine bT (fun m' σ''=>σ''=σ'/\(∀s,s∉["path","text"]->m' s=m s)/\m' "path"=some (.str y)/\m' "text"=some (cW (if g y=f y then h y else g y))) (fun R n=>?_) ?_
  ·refine atK.of (I.m "one" (by decide)) (bZ dd.tb ?_)
   refine atK.of (I.m "elder" (by decide)) (bZ dd.ta (u8 ?_))
   by_cases k:g y=f y
   ·refine aI (decide_eq_true k) ?_
    refine atK.of (I.m "other" (by decide)) (bZ dd.tc ?_)
    exact n _ _ ⟨rfl,fun s hs=>by rw[ak hs (by decide),ak hs (by decide),ak hs (by decide)],rfl,by rw[if_pos k];rfl⟩
   ·refine aE (decide_eq_false k) ?_
    exact n _ _ ⟨rfl,fun s hs=>by rw[ak hs (by decide),ak hs (by decide)],rfl,by rw[if_neg k];rfl⟩
  rintro m' σ'' ⟨rfl,hm,hp,hx⟩
  have hst:st f g h y=if fp f g h y=true then Option.none else if g y=f y then h y else g y:=rfl
  have xw':=(I.s w wt).trans xw3
  refine atK.of hp (atK.of ((hm "away" (by decide)).trans (I.m "away" (by decide))) (wE xw' (kg y cs) ?_))
  have stay:st f g h y=Option.none->LpD K t (part (ks.take (i+1)) (fV (st f g h))) ["path","text"] _ σ₃ m' σ'':=fun e=>
   ⟨kvs,ep',I.at rfl hm,by rw[List.take_add_one,hy];exact ii.congr (eA (by unfold fV;rw[e];rfl))⟩
  by_cases hc:fp f g h y=true
  ·refine aE (congrArg not (decide_eq_true ((hcs y).mpr hc))) ?_
   exact n1 _ _ (stay (by rw[hst,if_pos hc]))
  refine aI (congrArg not (decide_eq_false fun hh=>hc ((hcs y).mp hh))) ?_
  rw[if_neg hc] at hst
  generalize (if g y=f y then h y else g y)=o at hx hst
  refine atK.of hx ?_
  cases o with
  |none=>exact n1 _ _ (stay hst)
  |some z=>
   refine atK.of hx (atK.of ((hm "found" (by decide)).trans (I.m "found" (by decide))) (atK.of hp (cY I.x (Nat.lt_of_le_of_lt (Nat.le_trans ii.len d.un.few) (by decide)) fun ep2=>?_)))
   exact n1 _ _ ⟨_,ep2,I.set hm,by rw[List.take_add_one,hy];exact (ii.store hyK).congr (fT (by unfold fV;rw[hst];rfl))⟩
 ·rintro m σ' ⟨kvs,ep',I,ii⟩
  rw[List.length_map,List.take_length] at ii
  refine atK.of (I.m "found" (by decide)) ?_
  exact q t σ' (I.grow ht0 g03) ht0 ⟨kvs,ep',I.x,ii.congr (fW fun x hx=>(hks.mem x).mpr (oS (bC.mp hx)))⟩
end
noncomputable def Has (xss:List (List Str)) (x:Str):Prop:=∃l∈xss,x∈l
theorem Has.snoc {xss:List (List Str)} {l:List Str} {x:Str}:Has (xss++[l]) x↔Has xss x\/x∈l:=
 ⟨fun ⟨k,hk,hx⟩=>(List.mem_append.mp hk).elim (fun h=>.inl ⟨k,h,hx⟩) fun h=>.inr (List.mem_singleton.mp h▸hx),fun h=>h.elim (fun ⟨k,hk,hx⟩=>⟨k,List.mem_append_left _ hk,hx⟩) fun h=>⟨l,List.mem_append_right _ (.head _),h⟩⟩
structure Rows (t:Addr) (n:Nat) (P:Str->Prop) (xss:List (List Str)) (σ:ae):Prop where
 x:σ t=some (.list (xss.map im))
 ne:∀l∈xss,l≠[]
 len:xss.length<=n
 has:∀x,Has xss x↔P x
theorem lK {K:List Str} {F:Fi} {m₀:aq} {σ₀:ae} {t f l:Addr} {n:Nat} {P:Str->Prop} {xss:List (List Str)} {y:Str} {us:List Str} {Q:Fl->aq->ae->Prop} (htf:f≠t) (htl:l≠t) (xt:Rows t n P xss σ₀) (xf:DAt K (fV F) f σ₀) (xl:σ₀ l=some (.list (us.map .str)))
  (mt:m₀ "told"=some (.ref t)) (mf:m₀ "files"=some (.ref f)) (mp:m₀ "path"=some (.str y)) (hz:n+us.length < 16777216)
  (h:∀m σ' xss',(∀s,s≠"folder"->m s=m₀ s)->(∀b,b≠t->σ' b=σ₀ b)->Rows t (n+us.length) (fun x=>P x\/∃u∈us,F u≠Option.none/\(x=u\/x=y)) xss' σ'->Q .next m σ') :
  gm (.name "folder") (fun σ=>σ l=some (.list (us.map .str))) (gM (zo (lV (bQ pz (aO "folder") (aO "files"))) (gM (pd (co d7 b6 (aO "told") (bV (uq (bV (aO "folder") (bV (aO "path") iF))) iF))) iy) iy) iy) (us.map .str) m₀ σ₀ Q:=by
 obtain ⟨kf,ef,xf,fi⟩:=xf
 refine aC (fun j m σ'=>(∀s,s≠"folder"->m s=m₀ s)/\(∀b,b≠t->σ' b=σ₀ b)/\∃xss',Rows t (n+j) (fun x=>P x\/∃u∈us.take j,F u≠Option.none/\(x=u\/x=y)) xss' σ') (fun _ _ _=>False)
  (fun j m σ' h=>(h.2.1 l htl).trans xl) _ ?_ ?_ (fun _ _ _ h=>h.elim) _ _ ⟨fun _ _=>rfl,fun _ _=>rfl,xss,xt.x,xt.ne,xt.len,fun x=>(xt.has x).trans ⟨.inl,fun h=>h.elim id fun ⟨_,h,_⟩=>(by cases h)⟩⟩
 ·rintro j v m σ' Q' hv ⟨h1,h2,xs',I⟩ n1 n2 n3
  obtain ⟨u,hu,rfl⟩:=bg hv
  have hj:j < us.length:=(List.getElem?_eq_some_iff.mp hu).1
  refine⟨_,rfl,?_⟩
  refine atK.of ((h1 "files" (by decide)).trans mf) (rI ((h2 f htf).trans xf) ?_)
  rw[fi.eq u]
  have hm:∀s,s≠"folder"->put m "folder" (.str u) s=m₀ s:=fun s hs=>(aj hs).trans (h1 s hs)
  cases hF:F u with
  |none=>
   refine aE (by unfold fV;rw[hF];rfl) ?_
   refine n1 _ _ ⟨hm,h2,xs',I.x,I.ne,Nat.le_succ_of_le I.len,fun x=>(I.has x).trans (or_congr_right ?_)⟩
   rw[List.take_add_one,hu]
   refine⟨fun ⟨w,hw,q⟩=>⟨w,List.mem_append_left _ hw,q⟩,fun ⟨w,hw,q⟩=>⟨w,(List.mem_append.mp hw).resolve_right fun hh=>?_,q⟩⟩
   cases List.mem_singleton.mp hh
   exact q.1 hF
  |some z=>
   refine aI (by unfold fV;rw[hF];rfl) ?_
   refine atK.of ((h1 "told" (by decide)).trans mt) ⟨⟨_,I.x⟩,atK.of ((h1 "path" (by decide)).trans mp) ⟨l2,?_⟩⟩
   refine aD I.x (by rw[List.length_map];exact Nat.lt_of_le_of_lt (Nat.le_trans I.len (Nat.add_le_add_left (Nat.le_of_lt hj) _)) hz) ?_
   refine n1 _ _ ⟨hm,fun b hb=>(an hb).trans (h2 b hb),xs'++[[u,y]],?_,fun l hl=>(List.mem_append.mp hl).elim (I.ne l) fun hh=>(by cases List.mem_singleton.mp hh;exact fun e=>by cases e),?_,fun x=>Has.snoc.trans ?_⟩
   ·rw[List.map_append];exact af _ _ _
   ·rw[List.length_append];exact Nat.succ_le_succ I.len
   ·rw[I.has x,List.take_add_one,hu]
    constructor
    ·rintro ((h | ⟨w,hw,q⟩) | h)
     ·exact .inl h
     ·exact .inr ⟨w,List.mem_append_left _ hw,q⟩
     ·refine .inr ⟨u,List.mem_append_right _ (.head _),fun e=>(by rw[hF] at e;cases e),?_⟩
      exact (List.mem_cons.mp h).imp id fun h=>List.mem_singleton.mp h
    ·rintro (h | ⟨w,hw,q⟩)
     ·exact .inl (.inl h)
     ·rcases List.mem_append.mp hw with hw | hw
      ·exact .inl (.inr ⟨w,hw,q⟩)
      ·cases List.mem_singleton.mp hw
       exact .inr (List.mem_cons.mpr (q.2.imp id fun e=>List.mem_singleton.mpr e))
 ·rintro m σ' ⟨h1,h2,xs',I⟩
  rw[List.length_map,List.take_length] at I
  exact h m σ' xs' h1 h2 I
noncomputable def rZ (xs:List String) (m₀ m:aq):Prop:=∀s,s∉xs->m s=m₀ s
theorem xO {f g h:Fi} {x:Str}:c9 f g h eW x↔fp f g h x=true\/st f g h x≠Option.none/\∃y,st f g h y≠Option.none/\(Ab x y\/Ab y x):=by
 refine or_congr ⟨fun h=>h.1,fun h=>⟨h,rfl⟩⟩ (and_congr_right fun _=>?_)
 show ¬free (st f g h) x↔_
 constructor
 ·intro hf
  refine Classical.byContradiction fun hn=>hf fun y hy=>⟨fun h=>hn ⟨y,hy,.inl h⟩,fun h=>hn ⟨y,hy,.inr h⟩⟩
 ·rintro ⟨y,hy,h⟩ hf
  exact h.elim (hf y hy).1 (hf y hy).2
section
variable {ns:List Int} {σ:ae} {Q:V->ae->Prop}
theorem oW {x:Str} (hx:x.length<=300) (q:∀us:List Str,(∀y,y∈us↔Ab y x)->us.length<=301->e8 (us.map .str) σ Q):sp_above ns [.str x] σ Q:=⟨x,rfl,hx,q⟩
theorem vY {K:List Str} {a b c:Addr} {f g h:Fi} (d:D3 K a b c f g h σ) (q:∀fs:List (List Str),(∀x,(∃l∈fs,x∈l)↔c9 f g h eW x)->e8 (fs.map im) σ Q):sp_clashes ns [.ref a,.ref b,.ref c] σ Q:=⟨K,a,b,c,f,g,h,rfl,d,q⟩
end
section
variable {C:Cx} (G:Gl C Hd.vw) (hz:C.held=none)
include G hz
theorem nV:FnAt C 4 "clashes" (sp_clashes C.ns):=by
 have h0:=ds G hz
 have h1:=gp G hz
 have h2:=mH G hz
 apply FnAt.mk (xs:=["elder","one","other"]) G 9 20<;>(try trivial)
 case hspec=>
 rintro _ σ Q ⟨K,a,b,c,f,g,h,rfl,d,q⟩
 refine⟨rfl,?_⟩
 refine oU d fun cs hcs cll l σ₁ g1 hl xl=>?_
 refine i6 xl ?_
 refine cR (fun s=>s=σ₁) (fun s hs=>by rw[hs];exact xl) _ ((cs.map fun x=>[x]).map im) [] _ _ (by rw[List.length_map,List.length_map,List.length_map]) (by rw[List.length_map];exact Nat.le_trans (Nat.add_le_add_left cll _) (by decide)) ?_ rfl ?_
 ·rintro i v y hv hy s Q' rfl n
  obtain ⟨x,hx,rfl⟩:=bg hv
  refine⟨_,rfl,?_⟩
  refine⟨l1,?_⟩
  rw[List.map_map,List.getElem?_map,hx] at hy
  cases hy
  exact n _ rfl
 ·rintro s rfl t ht
  rw[List.nil_append]
  have htn:=g1.none ht
  have g2:=g1.upd (o:=.list ((cs.map fun x=>[x]).map im)) ht
  have xt:=af s t (.list ((cs.map fun x=>[x]).map im))
  generalize am s t (.list ((cs.map fun x=>[x]).map im))=σ₂ at g2 xt ⊢
  refine sr (d.grow g2) fun e σ₃ g3 he de=>?_
  obtain ⟨kf,ef,xf,fi⟩:=de
  have htf:e≠t:=by rintro rfl;rw[xt] at he;cases he
  have g23:=g2.trans g3
  refine om xf ?_
  refine aC (fun i m σ'=>rZ ["path","folder"] _ m/\(∀z o,σ₃ z=some o->z≠t->σ' z=some o)/\∃xss,Rows t (1000+301*i) (fun x=>fp f g h x=true\/∃y∈(ag kf).take i,∃u,Ab u y/\st f g h u≠Option.none/\(x=u\/x=y)) xss σ') (fun _ _ _=>False)
   (fun j m σ' h=>h.2.1 _ _ xf htf) _ ?_ ?_ (fun _ _ _ h=>h.elim) _ _ ⟨fun _ _=>rfl,fun _ _ e _=>e,cs.map fun x=>[x],g3 _ _ xt,fun l hl=>(by obtain ⟨x,_,rfl⟩:=List.mem_map.mp hl;exact fun e=>by cases e),by rw[List.length_map];exact cll,fun x=>?_⟩
  ·rintro i v m σ' Q' hv ⟨i1,i2,xss,I⟩ n1 n2 n3
   obtain ⟨y,hy,rfl⟩:=eE hv
   have hym:=List.mem_of_getElem? hy
   have hyK:=fi.sub y hym
   have hi:i < 1000:=Nat.lt_of_lt_of_le (List.getElem?_eq_some_iff.mp hy).1 (by unfold ag;rw[List.length_map];exact Nat.le_trans fi.len d.un.few)
   refine⟨_,rfl,?_⟩
   refine (oW (d.un.len y hyK) fun us hus ul r σ₄ g4 hr xr=>i6 xr ?_)
   have hrt:r≠t:=by rintro rfl;rw[I.x] at hr;cases hr
   refine lK (y:=y) htf hrt ⟨g4 _ _ I.x,I.ne,I.len,I.has⟩ ⟨kf,ef,g4 _ _ (i2 _ _ xf htf),fi⟩ xr ((aj (by decide)).trans (i1 "told" (by decide))) ((aj (by decide)).trans (i1 "files" (by decide))) rfl (by omega) fun m₅ σ₅ xs5 k1 k2 L=>?_
   refine n1 _ _ ⟨fun s hs=>(k1 s fun e=>hs (e▸.tail _ (.head _))).trans ((ak hs (by decide)).trans (i1 s hs)),fun z o e hz=>(k2 z hz).trans (g4 _ _ (i2 z o e hz)),xs5,L.x,L.ne,Nat.le_trans L.len (by omega),fun x=>(L.has x).trans ?_⟩
   rw[List.take_add_one,hy]
   constructor
   ·rintro ((h | ⟨w,hw,u⟩) | ⟨u,hu,hF⟩)
    ·exact .inl h
    ·exact .inr ⟨w,List.mem_append_left _ hw,u⟩
    ·exact .inr ⟨y,List.mem_append_right _ (.head _),u,(hus u).mp hu,hF⟩
   ·rintro (h | ⟨w,hw,u,q1,q2⟩)
    ·exact .inl (.inl h)
    ·rcases List.mem_append.mp hw with hw | hw
     ·exact .inl (.inr ⟨w,hw,u,q1,q2⟩)
     ·cases List.mem_singleton.mp hw
      exact .inr ⟨u,(hus u).mpr q1,q2⟩
  ·rintro m σ' ⟨i1,i2,xss,I⟩
   rw[List.length_map,<-List.length_map (f:=(·.1)) (as:=kf),show List.map (fun x=>x.1) kf=ag kf from rfl,List.take_length] at I
   have gf:Grow σ σ':=fun z o ez=>i2 z o (g23 _ _ ez) (by rintro rfl;rw[htn] at ez;cases ez)
   refine atK.of (i1 "told" (by decide)) (eU I.x (.t fun v hv=>?_) fun ys hp r hr=>?_)
   ·obtain ⟨l,hl,rfl⟩:=List.mem_map.mp hv
    cases l with
    |nil=>exact absurd rfl (I.ne _ hl)
    |cons y l=>exact⟨y,l,rfl⟩
   ·obtain ⟨fs,rfl,hpf⟩:=dJ im hp.symm rfl
    refine q fs (fun x=>?_) r _ (gf.upd hr) (gf.none hr) (af _ _ _)
    refine (⟨fun ⟨l,h1,h2⟩=>⟨l,hpf.mem_iff.mp h1,h2⟩,fun ⟨l,h1,h2⟩=>⟨l,hpf.mem_iff.mpr h1,h2⟩⟩:_↔Has xss x).trans ((I.has x).trans (Iff.trans (or_congr_right ?_) xO.symm))
    have key:∀z,z∈ag kf↔st f g h z≠Option.none:=fun z=>fi.mem.trans bC
    constructor
    ·rintro ⟨y,hy,u,h1,h2,rfl | rfl⟩
     ·exact⟨h2,y,(key y).mp hy,.inl h1⟩
     ·exact⟨(key _).mp hy,u,h2,.inr h1⟩
    ·rintro ⟨h1,y,h2,h | h⟩
     ·exact⟨y,(key y).mpr h2,x,h,h1,.inl rfl⟩
     ·exact⟨x,(key x).mpr h1,y,h,h2,.inr rfl⟩
  ·show Has _ x↔_
   refine⟨fun ⟨l,hl,hx⟩=>?_,fun h=>h.elim (fun h=>⟨[x],List.mem_map.mpr ⟨x,(hcs x).mpr h,rfl⟩,.head _⟩) fun ⟨_,h,_⟩=>(by cases h)⟩
   obtain ⟨y,hy,rfl⟩:=List.mem_map.mp hl
   exact .inl ((hcs x).mp (List.mem_singleton.mp hx▸hy))
end
theorem iW {f g h:Fi} {x:Str} (hb:c9 f g h eW x):f x≠Option.none\/g x≠Option.none\/h x≠Option.none:=by
 rcases xO.mp hb with hc | hc
 ·by_cases ha:f x=Option.none
  ·by_cases hb:g x=Option.none
   ·refine .inr (.inr fun hh=>?_)
    unfold fp iJ at hc
    rw[ha,hb,hh] at hc
    cases hc
   ·exact .inr (.inl hb)
  ·exact .inl ha
 ·exact oS hc.1
theorem iX {K:List Str} {a b c:Addr} {f g h:Fi} {σ:ae} (d:D3 K a b c f g h σ) {x:Str} (hb:c9 f g h eW x):x∈K:=(iW hb).elim d.ta.sub fun h=>h.elim d.tb.sub d.tc.sub
theorem mv {p:Pi} {y:Str}:pV p y≠Option.none↔p y≠Option.none:=not_congr Option.map_eq_none_iff
noncomputable def sD (S:List Str) (p:Pi):Pi:=fun x=>if x∈S then p x else Option.none
theorem rM {f g h:Fi} {p:Pi}:∀x,fV (st f g h) x=fV (cu f g h (sD [] p)) x:=fun _=>rfl
theorem iO {f g h:Fi} {p:Pi} {S:List Str} {y:Str} {o:Option Str} (hy:p y=some o):∀x,bF (fV (cu f g h (sD S p))) y (o.map V.str) x=fV (cu f g h (sD (S++[y]) p)) x:=fun x=>by
 unfold bF fV cu sD
 by_cases e:x=y
 ·rw[if_pos e,if_pos (List.mem_append_right _ (e▸.head _)),e,hy]
 ·rw[if_neg e]
  by_cases m:x∈S
  ·rw[if_pos m,if_pos (List.mem_append_left _ m)]
  ·rw[if_neg m,if_neg fun hh=>(List.mem_append.mp hh).elim m fun hh=>e (List.mem_singleton.mp hh)]
theorem rN {f g h:Fi} {p:Pi} {S:List Str} (hs:∀x,p x≠Option.none->x∈S):∀x,fV (cu f g h (sD S p)) x=fV (cu f g h p) x:=fun x=>by
 have:sD S p x=p x:=by
  unfold sD
  by_cases m:x∈S
  ·rw[if_pos m]
  ·rw[if_neg m];exact (Classical.byContradiction fun hh=>m (hs x fun e=>hh e.symm))
 unfold fV cu
 rw[this]
theorem pW (kvs:List (Str×V)) (y:Str):(aT kvs y).isSome=decide (y∈ag kvs):=cv kvs y
theorem dK (kvs:List (Str×V)):(ag kvs).take (kvs.map fun q=>V.str q.1).length=ag kvs:=by
 rw[List.length_map]
 exact List.take_of_length_le (by unfold ag;rw[List.length_map];exact Nat.le_refl _)
theorem q7 {α:Type} {F:Str->Option α} {y:Str} {o:Option α} (h:F y=o):∀x,bF F y o x=F x:=fun x=>by
 unfold bF
 by_cases e:x=y
 ·rw[if_pos e,e,h]
 ·rw[if_neg e]
section
variable {C:Cx} (G:Gl C Hd.vw) (hz:C.held=none) {ad:String->Addr} (Tb:XTab C oo nJ ad)
include G hz Tb
theorem qj:FnAtX C 5 "joined" (sp_joined C.ns):=by
 have h0:=ds G hz
 have h1:=gp G hz
 have h2:=mH G hz
 have h3:=nV G hz
 apply FnAtX.mk (xs:=["elder","one","other","picks"]) G 10 21<;>(try trivial)
 case hspec=>
 rintro _ σ Q X ⟨K,a,b,c,f,g,h,p,L,pk,rfl,d,⟨kp,ep,xp,ip⟩,hL,qN,qC,qM⟩
 refine⟨rfl,?_⟩
 intro t et ht
 have pt:p≠t:=by rintro rfl;rw[xp] at ht;cases ht
 have g0:Grow σ (am σ t (.dict [] et)):=Grow.refl.upd ht
 have xt:=af σ t (.dict [] et)
 generalize am σ t (.dict [] et)=σ₀ at g0 xt ⊢
 refine vY (d.grow g0) fun fs hfs l σ₁ g1 hl xl=>i6 xl ?_
 have lt:l≠t:=by rintro rfl;rw[xt] at hl;cases hl
 have g01:=g0.trans g1
 refine aC (fun i m σ'=>rZ ["clash","path"] _ m/\(∀b,b≠t->σ' b=σ₁ b)/\∃kt et,σ' t=some (.dict kt et)/\(ag kt).Nodup/\∀x,x∈ag kt↔Has (fs.take i) x) (fun _ _ _=>False)
  (fun j m σ' h=>(h.2.1 l lt).trans xl) _ ?_ ?_ (fun _ _ _ h=>h.elim) _ _ ⟨fun _ _=>rfl,fun _ _=>rfl,[],et,g1 _ _ xt,List.nodup_nil,fun x=>⟨fun h=>(by cases h),fun ⟨_,h,_⟩=>(by cases h)⟩⟩
 ·rintro i v m σ' Q' hv ⟨i1,i2,kt,et',i3,i4,i5⟩ n1 n2 n3
  rw[List.getElem?_map] at hv
  obtain ⟨u,hu,rfl⟩:=Option.map_eq_some_iff.mp hv
  refine⟨_,rfl,?_⟩
  have hK:∀x,Has fs x->x∈K:=fun x hx=>iX d ((hfs x).mp hx)
  refine jv (nm:="known") (K:=K) (by decide) ((aj (by decide)).trans (i1 "known" (by decide))) i3 (fun _ _=>trivial) d.un.few i4 (fun x hx=>hK x (let ⟨l,h1,h2⟩:=(i5 x).mp hx;⟨l,List.mem_of_mem_take h1,h2⟩)) (fun x hx=>hK x ⟨u,List.mem_of_getElem? hu,hx⟩) fun m' σ'' kt' et'' j1 j2 j3 j4 j5=>?_
  refine n1 _ _ ⟨fun s hs=>(j1 s fun e=>hs (e▸.tail _ (.head _))).trans ((ak hs (by decide)).trans (i1 s hs)),fun b hb=>(j3 b hb).trans (i2 b hb),kt',et'',j2,j4,fun x=>(j5 x).trans ?_⟩
  rw[i5 x,List.take_add_one,hu]
  exact Has.snoc.symm
 rintro m₁ σ₂ ⟨i1,i2,kt,et',xt2,_,i5⟩
 rw[List.length_map,List.take_length] at i5
 have kn:∀x,x∈ag kt↔c9 f g h eW x:=fun x=>(i5 x).trans (hfs x)
 have gz:Grow σ σ₂:=fun z o e=>(i2 z (by rintro rfl;rw[ht] at e;cases e)).trans (g01 _ _ e)
 have mt:m₁ "known"=some (.ref t):=i1 "known" (by decide)
 have mp:m₁ "picks"=some (.ref p):=i1 "picks" (by decide)
 have ma:m₁ "elder"=some (.ref a):=i1 "elder" (by decide)
 have mb:m₁ "one"=some (.ref b):=i1 "one" (by decide)
 have mc:m₁ "other"=some (.ref c):=i1 "other" (by decide)
 clear i1 i2 i5
 refine atK.of mp (om (gz _ _ xp) ?_)
 refine be (fun i m σ'=>rZ ["path"] m₁ m/\σ'=σ₂/\∀y∈(ag kp).take i,c9 f g h eW y) (fun i m σ' h=>by rw[h.2.1];exact gz _ _ xp) _ ?_ ?_ _ _ ⟨fun _ _=>rfl,rfl,fun _ h=>(by cases h)⟩
 ·rintro i v m σ' Q' hv ⟨i1,rfl,i2⟩ n1
  obtain ⟨y,hy,rfl⟩:=eE hv
  refine⟨_,rfl,?_⟩
  refine atK.of ((i1 "known" (by decide)).trans mt) (jB xt2 ?_)
  by_cases hb:y∈ag kt
  ·refine aE (by rw[pW];exact congrArg not (decide_eq_true hb)) ?_
   refine n1 _ _ ⟨fun s hs=>(ak hs (.head _)).trans (i1 s hs),rfl,fun z hz=>?_⟩
   rw[List.take_add_one,hy] at hz
   exact (List.mem_append.mp hz).elim (i2 z) fun hz=>(List.mem_singleton.mp hz)▸(kn y).mp hb
  ·refine aI (by rw[pW];exact congrArg not (decide_eq_false hb)) ?_
   exact qN ⟨y,mv.mp (ip.mem.mp (List.mem_of_getElem? hy)),fun h=>hb ((kn y).mpr h)⟩ _ gz
 rintro m₂ σ₃ ⟨j1,rfl,i2⟩
 rw[dK] at i2
 have hpk:∀x,pk x≠Option.none->c9 f g h eW x:=fun x hx=>i2 x (ip.mem.mpr (mv.mpr hx))
 clear i2
 refine atK.of ((j1 "elder" (by decide)).trans ma) (atK.of ((j1 "one" (by decide)).trans mb) (atK.of ((j1 "other" (by decide)).trans mc) (oU (d.grow gz) fun cs hcs _ w σ₄ g4 hw xw=>i6 xw ?_)))
 have gz4:=gz.trans g4
 refine be (fun i m σ'=>rZ ["path"] m₁ m/\σ'=σ₄/\∀y∈cs.take i,pk y≠Option.none) (fun i m σ' h=>by rw[h.2.1];exact xw) _ ?_ ?_ _ _ ⟨j1,rfl,fun _ h=>(by cases h)⟩
 ·rintro i v m σ' Q' hv ⟨i1,rfl,i2⟩ n1
  obtain ⟨y,hy,rfl⟩:=bg hv
  refine⟨_,rfl,?_⟩
  refine atK.of ((i1 "picks" (by decide)).trans mp) (jB (gz4 _ _ xp) ?_)
  cases hb:pk y with
  |none=>
   refine aI (by rw[ip.eq y];unfold pV;rw[hb];rfl) ?_
   exact qC hpk ⟨y,.inl ⟨(hcs y).mp (List.mem_of_getElem? hy),hb⟩⟩ _ gz4
  |some o=>
   refine aE (by rw[ip.eq y];unfold pV;rw[hb];rfl) ?_
   refine n1 _ _ ⟨fun s hs=>(ak hs (.head _)).trans (i1 s hs),rfl,fun z hz=>?_⟩
   rw[List.take_add_one,hy] at hz
   exact (List.mem_append.mp hz).elim (i2 z) fun hz=>(List.mem_singleton.mp hz)▸fun e=>(by rw[hb] at e;cases e)
 rintro m₃ σ₅ ⟨k1,rfl,k2⟩
 rw[List.length_map,List.take_length] at k2
 refine atK.of ((k1 "elder" (by decide)).trans ma) (atK.of ((k1 "one" (by decide)).trans mb) (atK.of ((k1 "other" (by decide)).trans mc) (sr (d.grow gz4) fun e σ₅ g5 he de=>?_)))
 obtain ⟨kf,ef,xf,fi⟩:=de
 have gz5:=gz4.trans g5
 have pe:p≠e:=by rintro rfl;rw[gz4 _ _ xp] at he;cases he
 have he0:=gz4.none he
 have mp3:m₃ "picks"=some (.ref p):=(k1 "picks" (by decide)).trans mp
 clear k1
 refine atK.of ((aj (by decide)).trans mp3) (om (gz5 _ _ xp) ?_)
 refine aC (fun i m σ'=>LpD K e (fV (cu f g h (sD ((ag kp).take i) pk))) ["path"] _ σ₅ m σ') (fun _ _ _=>False) (fun i m σ' ⟨_,_,h,_⟩=>(h.s p pe).trans (gz5 _ _ xp)) _ ?_ ?_ (fun _ _ _ h=>h.elim) _ _ ⟨kf,ef,⟨fun _ _=>rfl,xf,fun _ _=>rfl⟩,fi.congr rM⟩
 ·rintro i v m σ' Q' hv ⟨kvs,ep',I,ii⟩ n1 n2 n3
  obtain ⟨y,hy,rfl⟩:=eE hv
  have hyp:=mv.mp (ip.mem.mp (List.mem_of_getElem? hy))
  have hyK:y∈K:=iX d (hpk y hyp)
  have xp':=(I.s p pe).trans (gz5 _ _ xp)
  have mp':m "picks"=some (.ref p):=(I.m "picks" (by decide)).trans ((aj (by decide)).trans mp3)
  have hm:∀s,s∉["path"]->put m "path" (.str y) s=m s:=fun s hs=>ak hs (.head _)
  refine⟨_,rfl,?_⟩
  cases hp:pk y with
  |none=>exact absurd hp hyp
  |some o=>
   have hv:aT kp y=some (cW o):=by rw[ip.eq y];unfold pV;rw[hp];rfl
   refine atK.of mp' (qa xp' hv ?_)
   cases o with
   |some z=>
    refine atK.of mp' (qa xp' hv (atK.of (I.m "files" (by decide)) (cY I.x (Nat.lt_of_le_of_lt (Nat.le_trans ii.len d.un.few) (by decide)) fun ep2=>?_)))
    exact n1 _ _ ⟨_,ep2,I.set hm,by rw[List.take_add_one,hy];exact (ii.store hyK).congr (iO hp)⟩
   |none=>
    refine atK.of (I.m "files" (by decide)) (rI I.x ?_)
    cases hf:aT kvs y with
    |none=>
     exact n1 _ _ ⟨kvs,ep',I.at rfl hm,by rw[List.take_add_one,hy];exact ii.congr fun x=>(q7 ((ii.eq y).symm.trans hf) x).symm.trans (iO hp x)⟩
    |some v=>
     refine atK.of (I.m "files" (by decide)) ⟨⟨kvs,ep',I.x⟩,fQ I.x hf fun ep2=>?_⟩
     exact n1 _ _ ⟨_,ep2,I.set hm,by rw[List.take_add_one,hy];exact ii.out.congr (iO hp)⟩
 rintro m₄ σ₆ ⟨kf',ef',I,fi'⟩
 rw[dK] at fi'
 replace fi':=fi'.congr (rN (S:=ag kp) fun x hx=>ip.mem.mpr (mv.mpr hx))
 have gf:Grow σ σ₆:=I.grow he0 gz5
 have mf:m₄ "files"=some (.ref e):=I.m "files" (by decide)
 have xf6:=I.x
 clear I
 refine atK.of mf (om xf6 ?_)
 refine be (fun i m σ'=>rZ ["path","folder"] m₄ m/\Grow σ₆ σ'/\∀y∈(ag kf').take i,∀u,Ab u y->cu f g h pk u=Option.none) (fun i m σ' h=>h.2.1 _ _ xf6) _ ?_ ?_ _ _ ⟨fun _ _=>rfl,Grow.refl,fun _ h=>(by cases h)⟩
 ·rintro i v m σ' Q' hv ⟨i1,i2,i3⟩ n1
  obtain ⟨y,hy,rfl⟩:=eE hv
  have hym:=List.mem_of_getElem? hy
  refine⟨_,rfl,?_⟩
  refine (oW (d.un.len y (fi'.sub y hym)) fun us hus ul r σ₇ g7 hr xr=>i6 xr ?_)
  refine be (fun j m' σ''=>rZ ["path","folder"] m₄ m'/\σ''=σ₇/\∀u∈us.take j,cu f g h pk u=Option.none) (fun j m' σ'' h=>by rw[h.2.1];exact xr) _ ?_ ?_ _ _ ⟨fun s hs=>(ak hs (.head _)).trans (i1 s hs),rfl,fun _ h=>(by cases h)⟩
  ·rintro j v m' σ'' Q'' hv' ⟨j1,rfl,j3⟩ n1'
   obtain ⟨u,hu,rfl⟩:=bg hv'
   refine⟨_,rfl,?_⟩
   refine atK.of ((j1 "files" (by decide)).trans mf) (rI (g7 _ _ (i2 _ _ xf6)) ?_)
   cases hF:cu f g h pk u with
   |none=>
    refine aE (by rw[fi'.eq u];unfold fV;rw[hF];rfl) ?_
    refine n1' _ _ ⟨fun s hs=>(ak hs (by decide)).trans (j1 s hs),rfl,fun z hz=>?_⟩
    rw[List.take_add_one,hu] at hz
    exact (List.mem_append.mp hz).elim (j3 z) fun hz=>(List.mem_singleton.mp hz)▸hF
   |some w=>
    refine aI (by rw[fi'.eq u];unfold fV;rw[hF];rfl) ?_
    exact qC hpk ⟨y,.inr ⟨(fi'.mem.trans bC).mp hym,fun hfr=>(hfr u fun e=>(by rw[hF] at e;cases e)).2 ((hus u).mp (List.mem_of_getElem? hu))⟩⟩ _ ((gf.trans i2).trans g7)
  ·rintro m' σ'' ⟨j1,rfl,j3⟩
   rw[List.length_map,List.take_length] at j3
   refine n1 _ _ ⟨j1,i2.trans g7,fun z hz=>?_⟩
   rw[List.take_add_one,hy] at hz
   exact (List.mem_append.mp hz).elim (i3 z) fun hz u hu=>j3 u ((hus u).mpr (List.mem_singleton.mp hz▸hu))
 rintro m₅ σ₇ ⟨i1,i2,i3⟩
 rw[dK] at i3
 have key:∀z,z∈ag kf'↔cu f g h pk z≠Option.none:=fun z=>fi'.mem.trans bC
 refine atK.of ((i1 "files" (by decide)).trans mf) ?_
 refine qM hpk (fun x hx=>?_) e σ₇ (gf.trans i2) he0 ⟨kf',ef',i2 _ _ xf6,fi'⟩
 rcases hx with ⟨h1,h2⟩ | ⟨h1,h2⟩
 ·exact k2 x ((hcs x).mpr h1) h2
 ·exact h2 fun y hy=>⟨fun h=>h1 (i3 y ((key y).mpr hy) x h),fun h=>hy (i3 x ((key x).mpr h1) y h)⟩
end
theorem lB {f:Fi} {d:Dd} (h:d.x=AB):km f d=.error "NoPath":=by
 cases d with
 |put x y=>exact if_pos h
 |cut x=>exact if_pos h
section
variable {f:Fi} {x y:Str}
theorem fo (h:x≠AB) (hf:free f x):km f (.put x y)=.ok (bF f x (some y)):=Eq.trans (if_neg h) (if_pos hf)
theorem fm (h:x≠AB) (hf:¬free f x):km f (.put x y)=.error "InTheWay":=Eq.trans (if_neg h) (if_neg hf)
theorem iS (h:x≠AB) (hf:f x≠Option.none):km f (.cut x)=.ok (bF f x Option.none):=Eq.trans (if_neg h) (if_neg hf)
theorem lA (h:x≠AB) (hf:f x=Option.none):km f (.cut x)=.error "NoFile":=Eq.trans (if_neg h) (if_pos hf)
end
theorem cj {f:Fi} {d:Dd} {r:List Dd}:aU f (d::r)=(match km f d with | .ok g=>aU g r | .error c=>.error c):=rfl
theorem hY {f g:Fi} {r:List Dd}:∀l:List Dd,aU f l=.ok g->aU f (l++r)=aU g r:=by
 intro l
 induction l generalizing f with
 |nil=>intro h;cases h;rfl
 |cons d l ih=>
  intro h
  rw[cj] at h
  rw[List.cons_append,cj]
  cases e:km f d with
  |ok g'=>rw[e] at h;exact ih h
  |error c=>rw[e] at h;cases h
theorem gC {g g':Fi} {d:Dd} {r:List Dd} (h:km g d=.ok g'):aU g (d::r)=aU g' r:=by rw[cj,h]
theorem hW {g:Fi} {d:Dd} {c:String} {r:List Dd} (h:km g d=.error c):aU g (d::r)=.error c:=by rw[cj,h]
theorem dy {f g g':Fi} {dl:List Dd} {i:Nat} {d:Dd} (h:aU f (dl.take i)=.ok g) (hd:dl[i]?=some d) (e:km g d=.ok g'):aU f (dl.take (i+1))=.ok g':=by
 rw[List.take_add_one,hd]
 exact (hY _ h).trans (gC e)
theorem ci {f g:Fi} {dl:List Dd} {i:Nat} {d:Dd} {c:String} (h:aU f (dl.take i)=.ok g) (hd:dl[i]?=some d) (e:km g d=.error c):aU f dl=.error c:=by
 obtain ⟨hi,hx⟩:=List.getElem?_eq_some_iff.mp hd
 rw[<-List.take_append_drop i dl,List.drop_eq_getElem_cons hi,hx]
 exact (hY _ h).trans (hW e)
noncomputable def ct (K:List Str) (dl:List Dd):List Str:=(dl.map Dd.x).reverse++K
theorem d6 {K:List Str} {dl:List Dd} {i:Nat} {d:Dd} (hd:dl[i]?=some d):ct K (dl.take (i+1))=d.x::ct K (dl.take i):=by
 unfold ct
 rw[List.take_add_one,hd,List.map_append,List.reverse_append];rfl
theorem jb {K:List Str} {dl:List Dd} (i:Nat):(ct K (dl.take i)).length<=K.length+dl.length:=by
 unfold ct
 rw[List.length_append,List.length_reverse,List.length_map,Nat.add_comm]
 exact Nat.add_le_add_left (List.length_take_le' i dl) _
theorem OkD.len {d:Dd} (h:OkD d):d.x.length<=300:=h.elim (fun e=>by rw[e];decide +kernel) fun h=>Nat.le_trans h.len (by decide)
theorem fu {K:List Str} {dl:List Dd} (hK:∀x∈K,x.length<=300) (hd:∀d∈dl,OkD d):∀x∈ct K dl,x.length<=300:=fun x hx=>by
 rcases List.mem_append.mp hx with h | h
 ·obtain ⟨d,h1,rfl⟩:=List.mem_map.mp (List.mem_reverse.mp h)
  exact (hd d h1).len
 ·exact hK x h
theorem DAt.put {K:List Str} {f:Fi} {a:Addr} {σ:ae} {kvs:List (Str×V)} {x y:Str} {ep:Nat} (i:Is K (fV f) kvs):DAt (x::K) (fV (bF f x (some y))) a (am σ a (.dict (aR kvs x (.str y)) ep)):=
 ⟨_,ep,af _ _ _,((i.more fun _ h=>.tail _ h).store (.head _)).congr fun z=>(congrFun (fK V.str f x (some y)) z).symm⟩
theorem DAt.pop {K:List Str} {f:Fi} {a:Addr} {σ:ae} {kvs:List (Str×V)} {x:Str} {ep:Nat} (i:Is K (fV f) kvs):DAt (x::K) (fV (bF f x Option.none)) a (am σ a (.dict (dC kvs x) ep)):=
 ⟨_,ep,af _ _ _,((i.more fun _ h=>.tail _ h).out).congr fun z=>(congrFun (fK V.str f x Option.none) z).symm⟩
theorem Grow.over {σ σ':ae} {a:Addr} {o:AObj} (g:Grow σ σ') (ha:σ a=Option.none):Grow σ (Mine.am σ' a o):=fun b o' e=>(an (by rintro rfl;rw[ha] at e;cases e)).trans (g b o' e)
inductive ChI (K:List Str) (f:Fi) (dl:List Dd) (σ₀:ae) (nm:String) (i:Nat) (m:aq) (σ':ae):Prop
 |mk (g:Fi) (a:Addr) (e:aU f (dl.take i)=.ok g) (hm:m nm=some (.ref a)) (d:DAt (ct K (dl.take i)) (fV g) a σ') (gr:Grow σ₀ σ') (n:σ₀ a=Option.none):ChI K f dl σ₀ nm i m σ'
theorem sV {dl:List Dd} {i:Nat} {v:V} (h:(dl.map Dd.v)[i]?=some v):∃d,dl[i]?=some d/\v=d.v:=by
 rw[List.getElem?_map] at h
 obtain ⟨y,h1,rfl⟩:=Option.map_eq_some_iff.mp h
 exact⟨y,h1,rfl⟩
section
variable {ns:List Int} {σ:ae} {Q:V->ae->Prop}
theorem vg {d:Dd} (q:Q (.str d.x) σ):bl ns d.v (.int 1) σ Q:=by
 cases d with
 |put x y=>exact jK (i:=1) (Nat.lt_of_sub_eq_succ rfl) (by show 1 < 3;decide) rfl q
 |cut x=>exact jK (i:=1) (Nat.lt_of_sub_eq_succ rfl) (by show 1 < 2;decide) rfl q
theorem tE {x y:Str} (q:Q (.str (Str.ofString "put")) σ):bl ns (Dd.v (.put x y)) (.int 0) σ Q:=jK (i:=0) (Nat.lt_of_sub_eq_succ rfl) (by show 0 < 3;decide) rfl q
theorem wh {x y:Str} (q:Q (.str y) σ):bl ns (Dd.v (.put x y)) (.int 2) σ Q:=jK (i:=2) (Nat.lt_of_sub_eq_succ rfl) (by show 2 < 3;decide) rfl q
theorem uz {x:Str} (q:Q (.str (Str.ofString "cut")) σ):bl ns (Dd.v (.cut x)) (.int 0) σ Q:=jK (i:=0) (Nat.lt_of_sub_eq_succ rfl) (by show 0 < 2;decide) rfl q
theorem kU:decide (Str.ofString "put"=Str.ofString "cut")=false:=by decide +kernel
end
section
variable {C:Cx} (G:Gl C Hd.vw) (hz:C.held=none) {ad:String->Addr} (Tb:XTab C oo nJ ad) (g1:GInt C "MOST_PARTS" 8) (g2:GInt C "LONGEST_PART" 12) (g3:GStr C "SIGNS" dA)
include G hz Tb g1 g2 g3
theorem uo:FnAtX C 2 "done" (sp_done C.ns):=by
 have h0:=nS G hz g1 g2 g3
 have h1:=iP G hz
 apply FnAtX.mk (xs:=["tree","deed"]) G 11 22<;>(try trivial)
 case hspec=>
 rintro _ σ Q X ⟨K,a,f,d,rfl,⟨kvs,ep,xa,ia⟩,hK,hl,ok,qE,qO⟩
 refine⟨rfl,?_⟩
 refine (vg ?_)
 rcases ok with hab | good
 ·refine⟨_,false,rfl,.inl ⟨hab,rfl⟩,fun σ₁ g=>?_⟩
  exact qE "NoPath" (lB hab) _ g
 refine⟨_,true,rfl,.inr ⟨good,rfl⟩,fun σ₁ g=>?_⟩
 refine (.inl (bR (g _ _ xa) fun r er hr=>?_))
 have hr0:=g.none hr
 have gr:=g.upd (o:=.dict kvs er) hr
 have xr:=af σ₁ r (.dict kvs er)
 generalize am σ₁ r (.dict kvs er)=σ₂ at gr xr ⊢
 clear g hr
 have hx:=good.ne
 have hx3:d.x.length<=300:=Nat.le_trans good.len (by decide)
 have hkl:kvs.length < 16777216:=Nat.lt_of_le_of_lt (Nat.le_trans ia.len hK) (by decide)
 cases d with
 |cut x=>
  refine (uz (aZ rfl (aI (decide_eq_true rfl) ?_)))
  refine ((jB xr ?_))
  cases hf:f x with
  |none=>
   refine aI (by show (!(aT kvs x).isSome)=true;rw[ia.eq x];unfold fV;rw[hf];rfl) ?_
   exact qE "NoFile" (lA hx hf) _ gr
  |some y=>
   refine aE (by show (!(aT kvs x).isSome)=false;rw[ia.eq x];unfold fV;rw[hf];rfl) ?_
   refine⟨⟨kvs,er,xr⟩,(fQ xr (show aT kvs x=some (V.str y) by rw[ia.eq x];unfold fV;rw[hf];rfl) fun ep2=>?_)⟩
   refine ?_
   exact qO _ (iS hx fun e=>by rw[hf] at e;cases e) r _ (gr.over hr0) hr0 (DAt.pop ia)
 |put x y=>
  refine (tE (aZ rfl (aE kU ?_)))
  refine (om (gr _ _ xa) ?_)
  refine be (fun i m σ'=>rZ ["other"] _ m/\σ'=σ₂/\∀y∈(ag kvs).take i,¬Ab x y/\¬Ab y x) (fun i m σ' h=>by rw[h.2.1];exact gr _ _ xa) _ ?_ ?_ _ _ ⟨fun _ _=>rfl,rfl,fun _ h=>(by cases h)⟩
  ·rintro i v m σ' Q' hv ⟨i1,rfl,i2⟩ n1
   obtain ⟨z,hy,rfl⟩:=eE hv
   have hmem:=List.mem_of_getElem? hy
   have no:Ab x z\/Ab z x->¬free f x:=fun h hf=>by
    have:=hf z (bC.mp (ia.mem.mp hmem))
    exact h.elim this.1 this.2
   have mp:m "path"=some (.str x):=i1 "path" (by decide)
   refine⟨_,rfl,?_⟩
   refine atK.of mp (⟨_,_,rfl,Nat.le_trans (hl z (ia.sub z hmem)) (by decide),?_⟩)
   by_cases h1:Txt.startswith x (z++Str.ofString "/")=true
   ·refine aI h1 ?_
    exact qE "InTheWay" (fm hx (no (.inr h1))) _ gr
   refine aE (Bool.eq_false_iff.mpr h1) ?_
   refine atK.of mp ⟨_,_,rfl,Nat.le_trans hx3 (by decide),?_⟩
   by_cases h2:Txt.startswith z (x++Str.ofString "/")=true
   ·refine aI h2 ?_
    exact qE "InTheWay" (fm hx (no (.inl h2))) _ gr
   refine aE (Bool.eq_false_iff.mpr h2) ?_
   refine n1 _ _ ⟨fun s hs=>(ak hs (.head _)).trans (i1 s hs),rfl,fun w hw=>?_⟩
   rw[List.take_add_one,hy] at hw
   exact (List.mem_append.mp hw).elim (i2 w) fun hw=>(List.mem_singleton.mp hw)▸⟨h2,h1⟩
  ·rintro m σ' ⟨i1,rfl,i2⟩
   rw[dK] at i2
   have hfr:free f x:=fun z hz=>i2 z (ia.mem.mpr (bC.mpr hz))
   have md:m "deed"=some (Dd.v (.put x y)):=i1 "deed" (by decide)
   have mr:m "fresh"=some (.ref r):=i1 "fresh" (by decide)
   have mp:m "path"=some (.str x):=i1 "path" (by decide)
   refine atK.of md (wh (atK.of mr (atK.of mp (cY xr hkl fun ep2=>?_))))
   refine atK.of mr ?_
   exact qO _ (fo hx hfr) r _ (gr.over hr0) hr0 (DAt.put ia)
theorem nW:FnAtX C 3 "changed" (sp_changed C.ns):=by
 have h0:=uo G hz Tb g1 g2 g3
 apply FnAtX.mk (xs:=["tree","deeds"]) G 12 23<;>(try trivial)
 case hspec=>
 rintro _ σ Q X ⟨K,a,L,f,dl,rfl,⟨kvs,ep,xa,ia⟩,xL,hK,hl,ok,qE,qO⟩
 refine⟨rfl,?_⟩
 refine (.inl (bR xa fun r er hr=>?_))
 refine (i6 (Grow.refl.upd hr _ _ xL) ?_)
 refine be (fun i m σ'=>ChI K f dl σ "fresh" i m σ') (fun i m σ' ⟨_,_,_,_,_,g,_⟩=>g _ _ xL) _ ?_ ?_ _ _ ⟨f,r,rfl,rfl,⟨kvs,er,af _ _ _,ia⟩,Grow.refl.upd hr,hr⟩
 ·rintro i v m σ' Q' hv ⟨g,r',e,hm,d',gr,n⟩ n1
  obtain ⟨d,hd,rfl⟩:=sV hv
  have okd:=ok d (List.mem_of_getElem? hd)
  refine⟨_,rfl,?_⟩
  refine atK.of ((aj (by decide)).trans hm) (⟨_,r',g,d,rfl,d',Nat.le_trans (jb i) (Nat.le_trans hK (by decide)),fu hl fun d hd=>ok d (List.mem_of_mem_take hd),okd,fun c hc σ₂ g2=>?_,fun g' hg r2 σ₂ g2 hr2 d2=>?_⟩)
  ·exact qE c (ci e hd hc) _ (gr.trans g2)
  ·exact n1 _ _ ⟨g',r2,dy e hd hg,rfl,by rw[d6 hd];exact d2,gr.trans g2,gr.none hr2⟩
 ·rintro m σ' ⟨g,r',e,hm,d',gr,n⟩
  rw[List.length_map,List.take_length] at e d'
  refine atK.of hm ?_
  exact qO g e r' _ gr n d'
theorem cG:FnAt C 1 "_law_word_of" (sp__law_word_of C.ns):=by
 have h0:=cH G hz
 apply FnAt.mk (xs:=["_law_tree","_law_deeds"]) G 18 30<;>(try trivial)
 case hspec=>
 rintro _ σ Q ⟨K,a,L,f,dl,rfl,⟨kvs,ep,xa,ia⟩,xL,hK,hl,ok,qE,qO⟩
 refine⟨rfl,?_⟩
 refine (.inl (bR xa fun r er hr=>?_))
 refine (i6 (Grow.refl.upd hr _ _ xL) ?_)
 refine aC (fun i m σ'=>ChI K f dl σ "_law_made" i m σ') (fun u _ σ'=>∃c,aU f dl=.error c/\u=.str (Str.ofString c)/\Grow σ σ') (fun i m σ' ⟨_,_,_,_,_,g,_⟩=>g _ _ xL) _ ?_ ?_ ?_ _ _ ⟨f,r,rfl,rfl,⟨kvs,er,af _ _ _,ia⟩,Grow.refl.upd hr,hr⟩
 ·rintro i v m σ' Q' hv ⟨g,r',e,hm,d',gr,n⟩ n1 n2 n3
  obtain ⟨d,hd,rfl⟩:=sV hv
  have okd:=ok d (List.mem_of_getElem? hd)
  have hm':put m "_law_deed" d.v "_law_made"=some (.ref r'):=(aj (by decide)).trans hm
  refine⟨_,rfl,?_⟩
  refine (vg (aZ rfl ?_))
  by_cases hab:d.x=AB
  ·refine aI (decide_eq_true hab) ?_
   exact n3 _ _ _ ⟨"NoPath",ci e hd (lB hab),rfl,gr⟩
  refine aE (decide_eq_false hab) ?_
  have hx3:=okd.len
  have h300:=fu (dl:=dl.take i) hl fun d hd=>ok d (List.mem_of_mem_take hd)
  obtain ⟨k',e',x',i'⟩:=d'
  have hkl:k'.length < 16777216:=Nat.lt_of_le_of_lt (Nat.le_trans i'.len (Nat.le_trans (jb i) hK)) (by decide)
  cases d with
  |cut x=>
   refine (uz (aZ rfl (aI (decide_eq_true rfl) ?_)))
   refine (vg (atK.of hm' (jB x' ?_)))
   cases hf:g x with
   |none=>
    refine aI (by show (!(aT k' x).isSome)=true;rw[i'.eq x];unfold fV;rw[hf];rfl) ?_
    exact n3 _ _ _ ⟨"NoFile",ci e hd (lA hab hf),rfl,gr⟩
   |some y=>
    refine aE (by show (!(aT k' x).isSome)=false;rw[i'.eq x];unfold fV;rw[hf];rfl) ?_
    refine (uz (aZ rfl (aI (decide_eq_true rfl) ?_)))
    refine atK.of hm' ⟨⟨k',e',x'⟩,(vg (fQ x' (show aT k' x=some _ by rw[i'.eq x];unfold fV;rw[hf];rfl) fun ep2=>?_))⟩
    exact n1 _ _ ⟨_,r',dy e hd (iS hab fun e=>by rw[hf] at e;cases e),hm',by rw[d6 hd];exact DAt.pop i',gr.over n,n⟩
  |put x y=>
   refine (tE (aZ rfl (aE kU ?_)))
   refine (tE (aZ rfl (aE kU ?_)))
   refine atK.of hm' ((vg ⟨_,r',g,x,rfl,⟨k',e',x',i'⟩,h300,hx3,fun hf=>?_,fun hf=>?_⟩))
   ·skip
    refine (wh (atK.of hm' ((vg (cY x' hkl fun ep2=>?_)))))
    exact n1 _ _ ⟨_,r',dy e hd (fo hab hf),hm',by rw[d6 hd];exact DAt.put i',gr.over n,n⟩
   ·skip
    exact n3 _ _ _ ⟨"InTheWay",ci e hd (fm hab hf),rfl,gr⟩
 ·rintro m σ' ⟨g,r',e,hm,d',gr,n⟩
  rw[List.length_map,List.take_length] at e d'
  refine atK.of hm ?_
  exact qO g e r' _ gr n d'
 ·rintro u m σ' ⟨c,h,rfl,gr⟩
  exact qE c h _ gr
end
section
variable {σ:ae} {Q:V->ae->Prop}
theorem sM {a:Addr} {kvs:List (Str×V)} {ep:Nat} (h:σ a=some (.dict kvs ep)) (q:Q (.bool true) σ):bu [.ref a,.ty "dict"] σ Q:=by rw[qb h];exact q
theorem wS {x:Str} (q:Q (.bool false) σ):bu [.str x,.ty "dict"] σ Q:=⟨false,by simp[on],q⟩
end
inductive DbI (n:Nat) (σ₀:ae) (t:Addr) (s c:Int) (i:Nat) (m:aq) (σ':ae):Prop
 |mk (dl:List Dd) (K:List Str) (a:Addr) (f:Fi) (len:dl.length<=i) (ok:∀d∈dl,OkD d) (xt:σ' t=some (.list (dl.map Dd.v))) (d:DAt K (fV f) a σ') (hK:K.length<=n+i) (hl:∀x∈K,x.length<=300) (g:Grow σ₀ σ')
  (mt:m "_law_deeds"=some (.ref t)) (ma:m "_law_tree"=some (.ref a)) (ms:m "_law_shift"=some (.int s)) (mc:m "_law_cell"=some (.int c)):DbI n σ₀ t s c i m σ'
section
variable {C:Cx} (G:Gl C Hd.vw) (hz:C.held=none) {ad:String->Addr} (Tb:XTab C oo nJ ad) (g1:GInt C "MOST_PARTS" 8) (g2:GInt C "LONGEST_PART" 12) (g3:GStr C "SIGNS" dA)
include G hz Tb g1 g2 g3
theorem fb:FnAt C 3 "_law_deeds_by" (sp__law_deeds_by C.ns):=by
 have h0:=gu G hz
 have h1:=bP G hz
 have h2:=cG G hz Tb g1 g2 g3
 apply FnAt.mk (xs:=["_law_cell","_law_tree","_law_shift"]) G 19 31<;>(try trivial)
 case hspec=>
 rintro _ σ Q ⟨K,c,a,s,f,rfl,d,hK,hl,q⟩
 refine⟨rfl,?_⟩
 refine⟨by decide,fun t ht=>?_⟩
 refine⟨by decide,qG ?_⟩
 have gt:Grow σ (am σ t (.list [])):=Grow.refl.upd ht
 have xt0:=af σ t (.list [])
 generalize am σ t (.list [])=σ₀ at gt xt0 ⊢
 refine bT (fun m' σ'=>σ'=σ₀/\m' "_law_deeds"=some (.ref t)/\m' "_law_tree"=some (.ref a)/\m' "_law_shift"=some (.int s)/\m' "_law_cell"=some (.int c)/\∃n:Nat,m' "_law_many"=some (.int n)/\n<=9) (fun R nx=>?_) ?_
 ·have k1:=Int.emod_nonneg c (b:=3) (by decide)
  have k2:=Int.emod_lt_of_pos c (b:=3) (by decide)
  generalize c % 3=r at k1 k2 ⊢
  obtain ⟨r,rfl⟩:=Int.eq_ofNat_of_zero_le k1
  refine⟨⟨by decide,by decide⟩,by decide,aZ rfl ?_⟩
  by_cases h:c / 3 % 16=1
  ·refine aI (decide_eq_true h) ?_
   exact nx _ _ ⟨rfl,rfl,rfl,rfl,rfl,9,rfl,Nat.le_refl _⟩
  ·refine aE (decide_eq_false h) ?_
   exact nx _ _ ⟨rfl,rfl,rfl,rfl,rfl,1+r,rfl,Nat.le_trans (Nat.add_le_add_left (Nat.le_of_lt (Int.ofNat_lt.mp k2)) 1) (by decide)⟩
 rintro m₀ σ' ⟨rfl,mt,ma,ms,mc,n,hn,n9⟩
 refine atK.of hn (rc ⟨Int.natCast_nonneg _,Int.lt_of_le_of_lt (Int.ofNat_le.mpr n9) (by decide)⟩ ?_)
 rw[Int.toNat_natCast]
 refine aC (fun i m σ'=>DbI K.length σ t s c i m σ') (fun _ _ _=>False) (fun _ _ _ _=>trivial) _ ?_ ?_ (fun _ _ _ h=>h.elim) _ _ ⟨[],K,a,f,Nat.le_refl _,fun _ h=>(by cases h),xt0,d.grow gt,Nat.le_refl _,hl,gt,mt,ma,ms,mc⟩
 ·rintro i v m σ' Q' hv ⟨dl,K',a',f',len,ok,xt,d',hK',hl',g,mt,ma,ms,mc⟩ k1 k2 k3
  obtain ⟨hi,rfl⟩:=aV hv
  have hi9:=Nat.lt_of_lt_of_le hi n9
  refine⟨_,rfl,?_⟩
  refine atK.of ((aj (by decide)).trans mc) ((.inl ⟨.inl (by unfold bS;decide),.inl ⟨.inr (by unfold bS;decide),by decide,?_⟩⟩))
  generalize (c+1000003*(0+(i:Int)+1))*48271 % 131071=mx
  refine atK.of ms ⟨mx,s,rfl,fun x σ₁ g1 hx=>?_⟩
  refine bT (fun m' σ''=>σ''=σ₁/\(∀z,z∉["_law_j","_law_mixed","_law_path"]->m' z=m z)/\m' "_law_mixed"=some (.int mx)/\∃x,m' "_law_path"=some (.str x)/\(x=AB\/Good x)) (fun R nx=>?_) ?_
  ·refine⟨⟨by decide,by decide⟩,by decide,aZ rfl ?_⟩
   by_cases h:mx / 1620 % 16=2
   ·refine aI (decide_eq_true h) ?_
    exact nx _ _ ⟨rfl,fun z hz=>by rw[ak hz (by decide),ak hz (by decide),ak hz (by decide),ak hz (by decide)],rfl,AB,rfl,.inl rfl⟩
   ·refine aE (decide_eq_false h) ?_
    exact nx _ _ ⟨rfl,fun z hz=>by rw[ak hz (by decide),ak hz (by decide),ak hz (by decide)],rfl,x,rfl,.inr hx⟩
  clear hx x
  rintro m₁ σ'' ⟨rfl,e1,hmx,x,hp,hx⟩
  refine atK.of hp (atK.of hmx ⟨⟨by decide,by decide⟩,atK.of ((e1 "_law_shift" (by decide)).trans ms) ⟨_,_,rfl,fun y σ₂ g2=>⟨l3,?_⟩⟩⟩)
  refine bT (fun m' σ''=>σ''=σ₂/\(∀z,z∉["_law_j","_law_mixed","_law_path","_law_deed"]->m' z=m z)/\m' "_law_mixed"=some (.int mx)/\∃d:Dd,m' "_law_deed"=some d.v/\OkD d) (fun R nx=>?_) ?_
  ·have e2:∀v,∀z,z∉["_law_j","_law_mixed","_law_path","_law_deed"]->put m₁ "_law_deed" v z=m z:=fun v z hz=>(ak hz (by decide)).trans (e1 z fun h=>hz (List.mem_append_left ["_law_deed"] h))
   refine atK.of hmx ⟨⟨by decide,by decide⟩,by decide,aZ rfl ?_⟩
   by_cases h:mx / 540 % 3=0
   ·refine aI (decide_eq_true h) ?_
    refine atK.of hp ⟨l2,?_⟩
    exact nx _ _ ⟨rfl,fun z hz=>(ak hz (by decide)).trans (e2 _ z hz),hmx,.cut x,rfl,hx⟩
   ·refine aE (decide_eq_false h) ?_
    exact nx _ _ ⟨rfl,e2 _,hmx,.put x y,rfl,hx⟩
  clear hp hmx hx e1 x
  rintro m₂ σ'' ⟨rfl,e1,hmx,d,hd,okd⟩
  have g12:=g1.trans g2
  have gg:=g.trans g12
  have app:∀(m':aq) (σ₃:ae) (K₂:List Str) (a₂:Addr) (f₂:Fi),Grow σ' σ₃->(∀z,z∉["_law_j","_law_mixed","_law_path","_law_deed","_law_behind","_law_tree"]->m' z=m z)->m' "_law_tree"=some (.ref a₂)->DAt K₂ (fV f₂) a₂ σ₃->K₂.length<=K.length+(i+1)->(∀x∈K₂,x.length<=300)->b6 [.ref t,d.v] σ₃ fun _ σ₄=>Q' .next m' σ₄:=fun m' σ₃ K₂ a₂ f₂ g3 em mt2 d2 h1 h2=>by
   have xt3:=g3 _ _ xt
   refine aD xt3 (by rw[List.length_map];exact Nat.lt_of_le_of_lt (Nat.le_trans len (Nat.le_of_lt hi9)) (by decide)) ?_
   have hat:a₂≠t:=by rintro rfl;obtain ⟨_,_,e,_⟩:=d2;rw[xt3] at e;cases e
   refine k1 _ _ ⟨dl++[d],K₂,a₂,f₂,?_,fun z hz=>(List.mem_append.mp hz).elim (ok z) fun h=>(List.mem_singleton.mp h)▸okd,?_,?_,h1,h2,(g.trans g3).over ht,(em "_law_deeds" (by decide)).trans mt,mt2,(em "_law_shift" (by decide)).trans ms,(em "_law_cell" (by decide)).trans mc⟩
   ·rw[List.length_append];exact Nat.succ_le_succ len
   ·rw[List.map_append];exact af _ _ _
   ·obtain ⟨k,ep,e,ii⟩:=d2
    exact⟨k,ep,(an hat).trans e,ii⟩
  have ma2:=(e1 "_law_tree" (by decide)).trans ma
  have mt2:=(e1 "_law_deeds" (by decide)).trans mt
  refine atK.of ma2 (atK.of hd ⟨l1,fun L hL=>⟨K',a',L,f',[d],rfl,d'.grow (g12.upd hL),af _ _ _,?_,hl',fun z hz=>(List.mem_singleton.mp hz)▸okd,fun c' _ σ₃ g3=>?_,fun f₂ _ r σ₃ g3 _ d3=>?_⟩⟩)
  ·exact Nat.le_trans (Nat.add_le_add_right (Nat.le_trans hK' (Nat.add_le_add hK (Nat.le_of_lt hi9))) 1) (by decide)
  ·have g3':Grow σ' σ₃:=(g12.upd hL).trans g3
   refine (wS ?_)
   refine atK.of ((aj (by decide)).trans hmx) ⟨⟨by decide,by decide⟩,by decide,?_⟩
   have em:∀z,z∉["_law_j","_law_mixed","_law_path","_law_deed","_law_behind","_law_tree"]->put m₂ "_law_behind" (.str (Str.ofString c')) z=m z:=fun z hz=>(ak hz (by decide)).trans (e1 z fun h=>hz (List.mem_append_left ["_law_behind","_law_tree"] h))
   by_cases h:mx / 1620 % 8 < 3
   ·refine aI (decide_eq_true h) ?_
    refine atK.of mt2 ⟨⟨_,g3' _ _ xt⟩,atK.of hd ?_⟩
    exact app _ _ K' a' f' g3' em ma2 (d'.grow g3') (Nat.le_succ_of_le hK') hl'
   ·refine aE (decide_eq_false h) ?_
    exact k1 _ _ ⟨dl,K',a',f',Nat.le_succ_of_le len,ok,g3' _ _ xt,d'.grow g3',Nat.le_succ_of_le hK',hl',g.trans g3',mt2,ma2,(em "_law_shift" (by decide)).trans ms,(em "_law_cell" (by decide)).trans mc⟩
  ·have g3':Grow σ' σ₃:=(g12.upd hL).trans g3
   obtain ⟨kr,er,xr,ir⟩:=d3
   refine (sM xr ?_)
   refine atK.of mt2 ⟨⟨_,g3' _ _ xt⟩,atK.of hd ?_⟩
   refine app _ _ (d.x::K') r f₂ g3' (fun z hz=>?_) rfl ⟨kr,er,xr,ir⟩ (Nat.succ_le_succ hK') fun z hz=>?_
   ·rw[ak hz (by decide),ak hz (by decide)]
    exact e1 z fun h=>hz (List.mem_append_left ["_law_behind","_law_tree"] h)
   ·rcases List.mem_cons.mp hz with rfl | hz
    ·exact okd.len
    ·exact hl' z hz
 ·rintro m σ' ⟨dl,K',a',f',len,ok,xt,d',hK',hl',g,mt,ma,ms,mc⟩
  rw[aG] at len
  refine atK.of mt ?_
  exact q dl (Nat.le_trans len n9) ok t _ g ht xt
end
theorem gj {w m t:Option Str}:iJ w m t=true↔m≠t/\m≠w/\t≠w:=by
 unfold iJ
 rw[Bool.and_eq_true,Bool.and_eq_true,and_assoc,Bool.not_eq_true',Bool.not_eq_true',Bool.not_eq_true',decide_eq_false_iff_not,decide_eq_false_iff_not,decide_eq_false_iff_not]
theorem vW {f g h:Fi} {x:Str} (e:g x=h x\/h x=f x):fp f g h x=false/\st f g h x=g x:=by
 have hc:fp f g h x=false:=Bool.eq_false_iff.mpr fun hc=>(gj.mp hc).elim fun h1 h2=>e.elim h1 h2.2
 refine⟨hc,?_⟩
 show (if fp f g h x=true then Option.none else if g x=f x then h x else g x)=g x
 rw[if_neg (by rw[hc];decide)]
 by_cases h2:g x=f x
 ·rw[if_pos h2];exact e.elim Eq.symm fun e=>e.trans h2.symm
 ·rw[if_neg h2]
theorem zj {f g h:Fi} {x:Str} (h1:¬g x=h x) (h2:¬h x=f x) (h3:¬g x=f x):fp f g h x=true/\st f g h x=Option.none:=by
 have hc:fp f g h x=true:=gj.mpr ⟨h1,h3,h2⟩
 exact⟨hc,if_pos hc⟩
theorem vV {f g h:Fi} {x:Str} (h3:g x=f x):fp f g h x=false/\st f g h x=h x:=by
 have hc:fp f g h x=false:=Bool.eq_false_iff.mpr fun hc=>(gj.mp hc).2.1 h3
 exact⟨hc,Eq.trans (if_neg (by show ¬fp f g h x=true;rw[hc];decide)) (if_pos h3)⟩
noncomputable def uY (f g h:Fi) (pk:Pi) (x:Str):Option V:=if fp f g h x=true then some (.bool (!(pk x).isSome)) else Option.none
noncomputable def q9 (p:Str->Bool):V->Option V
 |.str x=>if p x=true then some (.str x) else Option.none
 |_=>Option.none
theorem pc {p:Str->Bool} {x:Str}:q9 p (.str x)=if p x=true then some (.str x) else Option.none:=rfl
theorem fN (p:Str->Bool):∀us:List Str,(us.map V.str).filterMap (q9 p)=(us.filter p).map V.str
 |[]=>rfl
 |u::us=>by
  rw[List.map_cons,List.filterMap_cons,pc,fN p us]
  by_cases h:p u=true
  ·rw[if_pos h,List.filter_cons_of_pos h];rfl
  ·rw[if_neg h,List.filter_cons_of_neg h]
theorem gh (kvs:List (Str×V)):(kvs.map fun q=>V.str q.1)=(ag kvs).map V.str:=by unfold ag;rw[List.map_map];rfl
theorem a9 (kvs:List (Str×V)):(ag kvs).length=kvs.length:=List.length_map _
theorem pS {σ:ae} {Q:V->ae->Prop} {a:Addr} {kvs:List (Str×V)} {ep:Nat} (h:σ a=some (.dict kvs ep)) (q:bq ((ag kvs).map V.str) σ Q):cM [.ref a] σ Q:=by rw[li h,gh];exact q
inductive JbI (K:List Str) (t u:Addr) (F P:Str->Option V) (xs:List String) (m₀:aq) (σ₀:ae) (m:aq) (σ':ae):Prop
 |mk (kt ku:List (Str×V)) (et eu:Nat) (xt:σ' t=some (.dict kt et)) (xu:σ' u=some (.dict ku eu)) (it:Is K F kt) (iu:Is K P ku) (js:∀d,d≠t->d≠u->σ' d=σ₀ d) (jm:∀y,y∉xs->m y=m₀ y):JbI K t u F P xs m₀ σ₀ m σ'
open Classical in
noncomputable def below (F:Fi) (x:Str):Bool:=!decide (free F x)
open Classical in
theorem eO {F:Fi} {x:Str}:below F x=true↔¬free F x:=by
 unfold below
 rw[Bool.not_eq_true',decide_eq_false_iff_not]
theorem w5 {f g h:Fi} {p:Pi} {x:Str} (e:p x=Option.none):cu f g h p x=st f g h x:=by unfold cu;rw[e]
theorem w4 {f g h:Fi} {p:Pi} {x:Str} {o:Option Str} (e:p x=some o):cu f g h p x=o:=by unfold cu;rw[e]
theorem Is.few {K:List Str} {F:Str->Option V} {kvs:List (Str×V)} (h:Is K F kvs) (hK:Kp K):kvs.length < 16777216:=Nat.lt_of_le_of_lt (Nat.le_trans h.len hK.few) (by decide)
section
variable {C:Cx} (G:Gl C Hd.vw) (hz:C.held=none)
include G hz
theorem eI:FnAt C 1 "_law_joined_by" (sp__law_joined_by C.ns):=by
 have h0:=cH G hz
 apply FnAt.mk (xs:=["_law_elder","_law_one","_law_other","_law_picks"]) G 20 32<;>(try trivial)
 case hspec=>
 rintro _ σ Q ⟨K,a,b,c,f,g,h,p,pk,rfl,d,⟨kp,ep,xp,ip⟩,hpk,q⟩
 refine⟨rfl,?_⟩
 intro t et ht u eu hu
 have g0:Grow σ (am (am σ t (.dict [] et)) u (.dict [] eu)):=(Grow.refl.upd ht).upd hu
 have ut:u≠t:=by rintro rfl;rw[af] at hu;cases hu
 have hu0:σ u=Option.none:=by rw[<-hu];exact (an ut).symm
 have xt:am (am σ t (.dict [] et)) u (.dict [] eu) t=some (.dict [] et):=(an ut.symm).trans (af _ _ _)
 have xu:=af (am σ t (.dict [] et)) u (.dict [] eu)
 generalize am (am σ t (.dict [] et)) u (.dict [] eu)=σ₀ at g0 xt xu ⊢
 clear hu
 have d0:=d.grow g0
 obtain ⟨⟨ka,ea,xa,ia⟩,⟨kb,eb,xb,ib⟩,⟨kc,ec,xc,ic⟩,hK⟩:=d0
 have la:=Nat.le_trans ia.len hK.few
 have lb:=Nat.le_trans ib.len hK.few
 have lc:=Nat.le_trans ic.len hK.few
 refine (pS xa fun l₁ h₁=>?_)
 have k1:Grow σ₀ (am σ₀ l₁ (.list ((ag ka).map V.str))):=Grow.refl.upd h₁
 have x1:=af σ₀ l₁ (.list ((ag ka).map V.str))
 generalize am σ₀ l₁ (.list ((ag ka).map V.str))=σ₁ at k1 x1 ⊢
 refine (pS (k1 _ _ xb) fun l₂ h₂=>?_)
 refine dY (aW h₂ x1) (af _ _ _) ?_ fun l₃ h₃=>?_
 ·rw[List.length_map,List.length_map,a9,a9];exact Nat.le_trans (Nat.add_le_add la lb) (by decide)
 rw[<-List.map_append]
 have k3:=(k1.upd (o:=.list ((ag kb).map V.str)) h₂).upd (o:=.list ((ag ka++ag kb).map V.str)) h₃
 have x3:=af (am σ₁ l₂ (.list ((ag kb).map V.str))) l₃ (.list ((ag ka++ag kb).map V.str))
 generalize am (am σ₁ l₂ (.list ((ag kb).map V.str))) l₃ (.list ((ag ka++ag kb).map V.str))=σ₃ at k3 x3 ⊢
 refine (pS (k3 _ _ xc) fun l₄ h₄=>?_)
 have lall:(ag ka++ag kb).length+(ag kc).length<=3000:=by rw[List.length_append,a9,a9,a9];exact Nat.add_le_add (Nat.add_le_add la lb) lc
 refine dY (aW h₄ x3) (af _ _ _) ?_ fun l₅ h₅=>?_
 ·rw[List.length_map,List.length_map];exact Nat.le_trans lall (by decide)
 rw[<-List.map_append]
 have k5:=(k3.upd (o:=.list ((ag kc).map V.str)) h₄).upd (o:=.list ((ag ka++ag kb++ag kc).map V.str)) h₅
 refine⟨l₅,_,rfl,af _ _ _,by rw[List.length_append];exact Nat.le_trans lall (by decide),fun us nd hus l hl=>i6 (af _ _ _) ?_⟩
 have k6:=k5.upd (o:=.list (us.map V.str)) hl
 have x6:=af (am (am σ₃ l₄ (.list ((ag kc).map V.str))) l₅ (.list ((ag ka++ag kb++ag kc).map V.str))) l (.list (us.map V.str))
 have lt:l≠t:=by rintro rfl;rw[k5 _ _ xt] at hl;cases hl
 have lu:l≠u:=by rintro rfl;rw[k5 _ _ xu] at hl;cases hl
 generalize am (am (am σ₃ l₄ (.list ((ag kc).map V.str))) l₅ (.list ((ag ka++ag kb++ag kc).map V.str))) l (.list (us.map V.str))=σ₆ at k6 x6 ⊢
 clear k5 k3 k1 h₁ h₂ h₃ h₄ h₅ x1 x3 hl la lb lc lall
 have g6:=g0.trans k6
 have hin:∀x,f x≠Option.none\/g x≠Option.none\/h x≠Option.none->x∈us:=fun x hx=>(hus x).mpr (by
  rw[List.mem_append,List.mem_append,ia.mem,ib.mem,ic.mem,bC,bC,bC,or_assoc];exact hx)
 have hinK:∀x∈us,x∈K:=fun x hx=>(List.mem_append.mp ((hus x).mp hx)).elim (fun h=>(List.mem_append.mp h).elim (ia.sub x) (ib.sub x)) (ic.sub x)
 clear hus xa xb xc ia ib ic nd
 have nt:∀{z o},σ z=some o->z≠t:=fun {z o} e=>by rintro rfl;rw[ht] at e;cases e
 have nu:∀{z o},σ z=some o->z≠u:=fun {z o} e=>by rintro rfl;rw[hu0] at e;cases e
 refine aC (fun i m σ'=>JbI K t u (part (us.take i) (fV (cu f g h pk))) (part (us.take i) (uY f g h pk)) ["_law_path","_law_was","_law_left","_law_line"] _ σ₆ m σ') (fun _ _ _=>False)
  (fun i m σ' ⟨_,_,_,_,_,_,_,_,s,_⟩=>(s l lt lu).trans x6) _ ?_ ?_ (fun _ _ _ h=>h.elim) _ _ ⟨[],[],et,eu,k6 _ _ xt,k6 _ _ xu,Is.nil.congr fU,Is.nil.congr fU,fun _ _ _=>rfl,fun _ _=>rfl⟩
 ·rintro i v m σ' Q' hv ⟨kt,ku,et',eu',xt',xu',it,iu,js,jm⟩ n1 n2 n3
  obtain ⟨y,hy,rfl⟩:=bg hv
  have hyK:=hinK y (List.mem_of_getElem? hy)
  have gr:Grow σ σ':=fun z o e=>(js z (nt e) (nu e)).trans (g6 z o e)
  have dd:=d.grow gr
  have xp':=gr _ _ xp
  have tk:us.take (i+1)=us.take i++[y]:=by rw[List.take_add_one,hy];rfl
  refine⟨_,rfl,?_⟩
  refine atK.of (jm "_law_elder" (by decide)) (bZ dd.ta ?_)
  refine atK.of (jm "_law_one" (by decide)) (bZ dd.tb ?_)
  refine atK.of (jm "_law_other" (by decide)) (bZ dd.tc ?_)
  refine bT (fun m' σ''=>JbI K t u (part (us.take i) (fV (cu f g h pk))) (part (us.take (i+1)) (uY f g h pk)) ["_law_path","_law_was","_law_left","_law_line"] m σ₆ m' σ''/\m' "_law_path"=some (.str y)/\m' "_law_line"=some (cW (st f g h y))) (fun R nx=>?_) ?_
  ·have em:∀z,z∉["_law_path","_law_was","_law_left","_law_line"]->put (put (put (put m "_law_path" (.str y)) "_law_was" (cW (f y))) "_law_left" (cW (g y))) "_law_line" (cW (h y)) z=m z:=fun z hz=>by
    rw[ak hz (by decide),ak hz (by decide),ak hz (by decide),ak hz (by decide)]
   have stay:fp f g h y=false->Is K (part (us.take (i+1)) (uY f g h pk)) ku:=fun hc=>by
    rw[tk];exact iu.congr (eA (by unfold uY;rw[if_neg (by rw[hc];decide)]))
   have left:g y=h y\/h y=f y->R .next (put (put (put (put (put m "_law_path" (.str y)) "_law_was" (cW (f y))) "_law_left" (cW (g y))) "_law_line" (cW (h y))) "_law_line" (cW (g y))) σ':=fun e=>
    nx _ _ ⟨⟨kt,ku,et',eu',xt',xu',it,stay (vW e).1,js,fun z hz=>(ak hz (by decide)).trans (em z hz)⟩,rfl,by rw[(vW e).2];rfl⟩
   refine u8 ?_
   by_cases h1:g y=h y
   ·refine aI (decide_eq_true h1) ?_
    exact left (.inl h1)
   refine aE (decide_eq_false h1) ?_
   refine u8 ?_
   by_cases h2:h y=f y
   ·refine aI (decide_eq_true h2) ?_
    exact left (.inr h2)
   refine aE (decide_eq_false h2) ?_
   refine AI ?_
   by_cases h3:g y=f y
   ·refine aE (congrArg not (decide_eq_true h3)) ?_
    exact nx _ _ ⟨⟨kt,ku,et',eu',xt',xu',it,stay (vV h3).1,js,em⟩,rfl,by rw[(vV h3).2];rfl⟩
   ·refine aI (congrArg not (decide_eq_false h3)) ?_
    have sn:=zj h1 h2 h3
    refine atK.of (jm "_law_picks" (by decide)) (jB xp' ?_)
    refine atK.of (jm "_law_places" (by decide)) ((cY xu' (iu.few d.un) fun eu2=>?_))
    refine nx _ _ ⟨⟨kt,_,et',eu2,(an ut.symm).trans xt',af _ _ _,it,?_,fun z h1 h2=>(an h2).trans (js z h1 h2),fun z hz=>(ak hz (by decide)).trans (em z hz)⟩,rfl,by rw[sn.2];rfl⟩
    rw[tk]
    refine (iu.store hyK).congr (fT ?_)
    unfold uY
    rw[if_pos sn.1,ip.eq y]
    unfold pV
    rw[Option.isSome_map]
  rintro m₁ σ'' ⟨⟨kt,ku,et',eu',xt',xu',it,iu,js,jm'⟩,mp,ml⟩
  have gr:Grow σ σ'':=fun z o e=>(js z (nt e) (nu e)).trans (g6 z o e)
  have xp':=gr _ _ xp
  have mpk:m₁ "_law_picks"=some (.ref p):=(jm' "_law_picks" (by decide)).trans (jm "_law_picks" (by decide))
  refine ix (fun m' s=>s=σ''/\(∀z,z∉["_law_path","_law_was","_law_left","_law_line"]->m' z=m z)/\m' "_law_path"=some (.str y)/\m' "_law_line"=some (cW (cu f g h pk y))) (fun R nx=>?_) ?_
  ·refine atK.of mp (atK.of mpk (rI xp' ?_))
   cases hp:pk y with
   |none=>
    refine aE (by rw[ip.eq y];unfold pV;rw[hp];rfl) ?_
    exact nx _ _ ⟨rfl,jm',mp,by rw[w5 hp];exact ml⟩
   |some o=>
    have hv:aT kp y=some (cW o):=by rw[ip.eq y];unfold pV;rw[hp];rfl
    refine aI (by rw[hv];rfl) ?_
    refine atK.of mpk (atK.of mp (qa xp' hv ?_))
    exact nx _ _ ⟨rfl,fun z hz=>(ak hz (by decide)).trans (jm' z hz),(aj (by decide)).trans mp,by rw[w4 hp];rfl⟩
  clear mp ml mpk xp' xp
  rintro m₂ s ⟨rfl,jm2,mp,ml⟩
  have done:∀k e s',s' t=some (.dict k e)->Is K (part (us.take (i+1)) (fV (cu f g h pk))) k->(∀z,z≠t->s' z=s z)->Q' .next m₂ s':=fun k e s' x1 x2 x3=>
   n1 _ _ ⟨k,ku,e,eu',x1,(x3 u ut).trans xu',x2,iu,fun z h1 h2=>(x3 z h1).trans (js z h1 h2),fun z hz=>(jm2 z hz).trans (jm z hz)⟩
  refine atK.of ml ?_
  cases ho:cu f g h pk y with
  |none=>
   exact done kt et' s xt' (by rw[tk];exact it.congr (eA (by unfold fV;rw[ho];rfl))) fun _ _=>rfl
  |some w=>
   rw[ho] at ml
   refine atK.of ml (atK.of ((jm2 "_law_made" (by decide)).trans (jm "_law_made" (by decide))) (atK.of mp (cY xt' (it.few d.un) fun et2=>?_)))
   exact done _ et2 _ (af _ _ _) (by rw[tk];exact (it.store hyK).congr (fT (by unfold fV;rw[ho];rfl))) fun z hz=>an hz
 ·rintro m σ₂ ⟨kt,ku,et',eu',xt',xu',it,iu,js,jm⟩
  rw[List.length_map,List.take_length] at it iu
  have g2:Grow σ σ₂:=fun z o e=>(js z (nt e) (nu e)).trans (g6 z o e)
  replace it:=it.congr (fW fun x hx=>hin x (by
   have hx:=bC.mp hx
   unfold cu at hx
   cases hp:pk x with
   |none=>rw[hp] at hx;exact oS hx
   |some o=>exact iW (hpk x fun e=>by rw[hp] at e;cases e)))
  replace iu:=iu.congr (fW fun x hx=>hin x (iW (.inl ⟨Classical.byContradiction fun hc=>hx (if_neg hc),rfl⟩)))
  have kt1:(ag kt).length<=1000:=by rw[a9];exact Nat.le_trans it.len d.un.few
  have ku1:(ag ku).length<=1000:=by rw[a9];exact Nat.le_trans iu.len d.un.few
  clear js hin hinK g6 k6 x6 lt lu xt xu g0
  have mt:=jm "_law_made" (by decide)
  have mu:=jm "_law_places" (by decide)
  refine atK.of mt (om xt' ?_)
  rw[gh]
  refine bK (fun s=>s=σ₂) (fun s hs=>by rw[hs];exact xt') (q9 (below (cu f g h pk))) _ _ _ _ (by rw[List.length_map];exact Nat.le_trans (Nat.add_le_add_left kt1 _) (by decide)) ?_ rfl ?_
  ·rintro v hv s Q₁ Q₂ rfl n1 n2
   obtain ⟨x,hx,rfl⟩:=List.mem_map.mp hv
   refine⟨_,rfl,?_⟩
   refine atK.of mt (⟨K,t,cu f g h pk,x,rfl,⟨kt,et',xt',it⟩,d.un.len,d.un.len x (it.sub x hx),fun hf=>?_,fun hf=>?_⟩)
   ·skip
    exact n2 _ rfl (if_neg fun h=>eO.mp h hf)
   ·skip
    exact n1 _ _ rfl (if_pos (eO.mpr hf))
  ·rintro s rfl w hw
   rw[List.nil_append,fN]
   have xw:=af s w (.list (((ag kt).filter (below (cu f g h pk))).map V.str))
   have gw:Grow s (am s w (.list (((ag kt).filter (below (cu f g h pk))).map V.str))):=Grow.refl.upd hw
   generalize am s w (.list (((ag kt).filter (below (cu f g h pk))).map V.str))=σ₃ at xw gw ⊢
   refine atK.of mt (atK.of mu (om (gw _ _ xu') ?_))
   rw[gh]
   refine bK (fun s=>s=σ₃) (fun s hs=>by rw[hs];exact gw _ _ xu') (q9 fun x=>!(pk x).isSome) _ _ _ _ (by rw[List.length_map];exact Nat.le_trans (Nat.add_le_add_left ku1 _) (by decide)) ?_ rfl ?_
   ·rintro v hv s Q₁ Q₂ rfl n1 n2
    obtain ⟨x,hx,rfl⟩:=List.mem_map.mp hv
    refine⟨_,rfl,?_⟩
    have hc:fp f g h x=true:=Classical.byContradiction fun hc=>iu.mem.mp hx (if_neg hc)
    refine atK.of mu ((qa (gw _ _ xu') ((iu.eq x).trans (if_pos hc)) ?_))
    cases hp:(pk x).isSome with
    |true=>
     exact n2 _ rfl (if_neg (by show ¬(!(pk x).isSome)=true;rw[hp];decide))
    |false=>
     exact n1 _ _ rfl (if_pos (by show (!(pk x).isSome)=true;rw[hp];rfl))
   ·rintro s rfl w2 hw2
    rw[List.nil_append,fN]
    refine (eU (aW hw2 xw) (.strs _) fun ys hp r hr=>?_)
    obtain ⟨bs,rfl,hpf⟩:=dJ V.str hp.symm rfl
    have lb:bs.length<=1000:=by rw[hpf.length_eq];exact Nat.le_trans (List.length_filter_le _ _) kt1
    have lc:=Nat.le_trans (List.length_filter_le (fun x=>!(pk x).isSome) (ag ku)) ku1
    refine dY (aW hr (af _ _ _)) (af _ _ _) (by rw[List.length_map,List.length_map];exact Nat.le_trans (Nat.add_le_add lc lb) (by decide)) fun l₉ h₉=>⟨l2,?_⟩
    rw[<-List.map_append]
    have gz:=((gw.upd hw2).upd hr).upd (o:=.list (((ag ku).filter (fun x=>!(pk x).isSome)++bs).map V.str)) h₉
    refine q t l₉ _ _ (g2.trans gz) ht ⟨kt,et',gz _ _ xt',it⟩ (af _ _ _) (fun x=>?_) (by rw[List.length_append];exact Nat.add_le_add lc lb)
    rw[List.mem_append,hpf.mem_iff,List.mem_filter,List.mem_filter,it.mem,iu.mem,bC]
    refine or_congr (and_congr ?_ ?_) (and_congr_right fun _=>?_)
    ·unfold uY
     by_cases hc:fp f g h x=true
     ·rw[if_pos hc];exact⟨fun _=>hc,fun _ e=>(by cases e)⟩
     ·rw[if_neg hc];exact⟨fun h=>absurd rfl h,fun h=>absurd h hc⟩
    ·cases pk x with
     |none=>exact⟨fun _=>rfl,fun _=>rfl⟩
     |some o=>exact⟨fun h=>(by cases h),fun h=>(by cases h)⟩
    ·exact eO
end
noncomputable def Lst (S:List Addr) (σ:ae):Prop:=∀s∈S,∃xs,σ s=some (.list xs)
section
variable {K K':List Str} {S S':List Addr} {σ σ' σ'':ae} {b t mo:Addr} {fs:List Fi} {ps:List (List Int)}
theorem DAt.keep {F:Str->Option V} {a:Addr} (h:DAt K F a σ) (k:Keep S σ σ') (hl:Lst S σ):DAt K F a σ':=
 let ⟨kvs,ep,e,i⟩:=h
 ⟨kvs,ep,k _ _ e fun hs=>(by refine x1_1 (hl _ hs) fun xs h=>?_;rw[e] at h;cases h),i⟩
theorem Grow.keep (g:Grow σ σ'):Keep S σ σ':=fun b o e _=>g b o e
theorem Keep.trans (h:Keep S σ σ') (h':Keep S σ' σ''):Keep S σ σ'':=fun b o e hb=>h' b o (h b o e hb) hb
theorem Trs.grow (T:Trs K t fs σ) (g:Grow σ σ'):Trs K t fs σ':=let ⟨ads,h,l,a⟩:=T;⟨ads,g _ _ h,l,fun i d f e1 e2=>(a i d f e1 e2).grow g⟩
theorem Trs.more (T:Trs K t fs σ) (k:∀x∈K,x∈K'):Trs K' t fs σ:=let ⟨ads,h,l,a⟩:=T;⟨ads,h,l,fun i d f e1 e2=>(a i d f e1 e2).more k⟩
theorem Trs.keep (T:Trs K t fs σ) (k:Keep S σ σ') (hl:Lst S σ) (ht:t∉S):Trs K t fs σ':=let ⟨ads,h,l,a⟩:=T;⟨ads,k _ _ h ht,l,fun i d f e1 e2=>(a i d f e1 e2).keep k hl⟩
theorem BookAt.grow (B:BookAt K b t mo fs ps σ) (g:Grow σ σ'):BookAt K b t mo fs ps σ':=
 ⟨let ⟨dx,h1,h2⟩:=B.obj;⟨dx,g _ _ h1,g _ _ h2⟩,B.tr.grow g,g _ _ B.md,B.ne,B.len,B.ord,B.un⟩
theorem BookAt.more (B:BookAt K b t mo fs ps σ) (k:∀x∈K,x∈K') (u:Kp K'):BookAt K' b t mo fs ps σ:=⟨B.obj,B.tr.more k,B.md,B.ne,B.len,B.ord,u⟩
theorem BookAt.isI (B:BookAt K b t mo fs ps σ) {f:String} (h:[("made_of",V.ref mo),("trees",V.ref t)].lookup f=Option.none):∃a dx fs,V.ref b=.ref a/\σ a=some (.inst dx)/\σ dx=some (.ns fs)/\fs.lookup f=Option.none:=
 let ⟨dx,h1,h2⟩:=B.obj;⟨b,dx,_,rfl,h1,h2,h⟩
theorem Sep.grow {d:Addr} (h:Sep t σ d) (g:Grow σ σ') {ys:List V} (ht:σ t=some (.list ys)):Sep t σ' d:=fun xs e=>h xs (by rw[g _ _ ht] at e;cases e;exact ht)
variable {ns:List Int} {Q:V->ae->Prop} {n:Int}
theorem bz {f:Fi} (T:Trs K t fs σ) (h0:0<=n) (hf:fs[n.toNat]?=some f) (q:∀d,DAt K (fV f) d σ->Q (.ref d) σ):bl ns (.ref t) (.int n) σ Q:=by
 obtain ⟨ads,h,l,a⟩:=T
 have hlt:n.toNat < ads.length:=by rw[l];exact (List.getElem?_eq_some_iff.mp hf).1
 have e:=List.getElem?_eq_getElem hlt
 exact ch h h0 (by rw[List.getElem?_map,e];rfl) (q _ (a _ _ f e hf))
theorem bb (T:Trs K t fs σ) (q:Q (.int fs.length) σ):eT ns [.ref t] σ Q:=by
 obtain ⟨ads,h,l,a⟩:=T
 exact gO h (by rw[List.length_map,l];exact q)
theorem fh {l:List Int} (h:σ mo=some (.list (aJ ps))) (h0:0<=n) (hl:ps[n.toNat]?=some l) (q:Q (.tup (l.map .int)) σ):bl ns (.ref mo) (.int n) σ Q:=ch h h0 (by unfold aJ;rw[List.getElem?_map,hl];rfl) q
theorem ui {i:Int} (q:Q (.bool false) σ):bu [.int i,.ty "bool"] σ Q:=⟨false,by simp[on],q⟩
theorem uh {i:Int} (q:Q (.bool true) σ):bu [.int i,.ty "int"] σ Q:=⟨true,by simp[on],q⟩
theorem toNat_lt {α:Type} {l:List α} {x:α} (h0:0<=n) (h:l[n.toNat]?=some x):n < l.length:=by
 have:=(List.getElem?_eq_some_iff.mp h).1
 exact (Int.toNat_lt h0).mp this
end
theorem bh {σ:ae} {S:List Addr} {z a:Addr} {o:AObj} (hz:z∉S) (ha:a∈S):am σ a o z=σ z:=an fun e=>hz (e▸ha)
theorem ge {n:Nat}:((n+1:Nat):Int)-1=n:=Int.add_sub_cancel (n:Int) 1
theorem cb {α:Type} {ps:List α} {l x:α} {k:Nat} (h:(ps++[l])[k]?=some x):ps[k]?=some x\/k=ps.length/\x=l:=by
 by_cases hk:k < ps.length
 ·rw[List.getElem?_append_left hk] at h;exact .inl h
 ·have hk:=Nat.le_of_not_lt hk
  rw[List.getElem?_append_right hk] at h
  refine .inr ?_
  cases e:k-ps.length with
  |zero=>rw[e] at h;cases h;exact⟨Nat.le_antisymm (Nat.sub_eq_zero_iff_le.mp e) hk,rfl⟩
  |succ n=>rw[e] at h;cases h
theorem Ord.snoc {ps:List (List Int)} {l:List Int} (o:Ord ps) (h2:l.length<=2) (hn:l≠[]) (hl:∀p∈l,0<=p/\p < (ps.length:Int)) (hf:ps.length < 200):Ord (ps++[l]) where
 two k l' e:=(cb e).elim (o.two k l') fun h=>h.2▸h2
 lt k l' e:=(cb e).elim (o.lt k l') fun h=>h.1▸h.2▸hl
 some k l' e h:=(cb e).elim (fun e=>o.some k l' e h) fun h=>h.2▸hn
 few:=by rw[List.length_append];exact hf
 pos:=by rw[List.length_append];exact Nat.succ_pos _
theorem Ord.one:Ord [[]] where
 two k l e:=by cases k with | zero=>cases e;exact Nat.zero_le _ | succ k=>cases e
 lt k l e:=by cases k with | zero=>cases e;exact fun _ h=>(by cases h) | succ k=>cases e
 some k l e h:=by cases k with | zero=>exact absurd h (Nat.lt_irrefl _) | succ k=>cases e
 few:=by decide
 pos:=by decide
theorem Kp.nil:Kp []:=⟨Nat.zero_le _,fun _ h=>(by cases h),fun h=>(by cases h)⟩
theorem Trs.one {K:List Str} {t d:Addr} {ep:Nat} {σ:ae} (h:σ t=some (.list [.ref d])) (hd:σ d=some (.dict [] ep)):Trs K t [fun _=>Option.none] σ:=
 ⟨[d],h,rfl,fun i d' f e1 e2=>by
  cases i with
  |zero=>cases e1;cases e2;exact⟨[],ep,hd,Is.nil⟩
  |succ i=>cases e1⟩
theorem Trs.snoc {K:List Str} {t d:Addr} {fs:List Fi} {f:Fi} {ads:List Addr} {σ:ae} (h:σ t=some (.list (ads.map V.ref++[.ref d]))) (l:ads.length=fs.length) (a:∀(i:Nat) d f,ads[i]?=some d->fs[i]?=some f->DAt K (fV f) d σ) (hd:DAt K (fV f) d σ):Trs K t (fs++[f]) σ:=
 ⟨ads++[d],by rw[List.map_append];exact h,by rw[List.length_append,List.length_append,l];rfl,fun i d' f' e1 e2=>by
  rcases cb e1 with e1 | ⟨h1,rfl⟩<;>rcases cb e2 with e2 | ⟨h2,rfl⟩
  ·exact a i d' f' e1 e2
  ·exact absurd (List.getElem?_eq_some_iff.mp e1).1 (by rw[h2,l];exact Nat.lt_irrefl _)
  ·exact absurd (List.getElem?_eq_some_iff.mp e2).1 (by rw[h1,l];exact Nat.lt_irrefl _)
  ·exact hd⟩
section
variable {C:Cx} (G:Gl C Hd.vw) (hz:C.held=none) {bk N:Addr} {mN:Str->Option Value} (B:Bk C bk N mN) {P:Params} (KX:(Hd.kk P).In C.hB) (hN:N=Hd.bkN)
include G hz B KX hN
theorem m___init__:MtAt C mN 0 "__init__" (sp___init__ C.ns):=by
 apply MtAt.mk (xs:=["self"]) G.ok B KX (Hd.m___init__ P) (by subst hN;exact Hd.mn___init__ P)<;>(try trivial)
 case hspec=>
 rintro _ σ Q ⟨a,dx,rfl,h1,h2,q⟩
 refine⟨rfl,?_⟩
 intro d ed hd
 refine⟨l1,fun t ht=>?_⟩
 have g1:Grow σ (am (am σ d (.dict [] ed)) t (.list [.ref d])):=(Grow.refl.upd hd).upd ht
 have dt:d≠t:=by rintro rfl;rw[af] at ht;cases ht
 have xd:am (am σ d (.dict [] ed)) t (.list [.ref d]) d=some (.dict [] ed):=(an dt).trans (af _ _ _)
 have xt:=af (am σ d (.dict [] ed)) t (.list [.ref d])
 have ht0:=(Grow.refl.upd (o:=.dict [] ed) hd).none ht
 generalize am (am σ d (.dict [] ed)) t (.list [.ref d])=σ₁ at g1 xd xt ⊢
 refine⟨a,dx,[],rfl,g1 _ _ h1,g1 _ _ h2,by decide,?_⟩
 have ax:a≠dx:=by rintro rfl;rw[h1] at h2;cases h2
 have tx:t≠dx:=by rintro rfl;rw[ht0] at h2;cases h2
 have dxx:d≠dx:=by rintro rfl;rw[hd] at h2;cases h2
 refine⟨by decide,l1,fun mo hmo=>?_⟩
 have mx:mo≠dx:=by rintro rfl;rw[af] at hmo;cases hmo
 have hmo1:σ₁ mo=Option.none:=(an mx).symm.trans hmo
 have e1:∀z o,σ₁ z=some o->z≠dx->am (am σ₁ dx (.ns [("trees",.ref t)])) mo (.list [.tup []]) z=some o:=fun z o e hz=>aW hmo ((an hz).trans e)
 refine⟨a,dx,[("trees",.ref t)],rfl,e1 _ _ (g1 _ _ h1) ax,aW hmo (af _ _ _),Nat.lt_of_sub_eq_succ rfl,?_⟩
 have e2:∀z o,σ₁ z=some o->z≠dx->am (am (am σ₁ dx (.ns [("trees",.ref t)])) mo (.list [.tup []])) dx (.ns [("made_of",.ref mo),("trees",.ref t)]) z=some o:=fun z o e hz=>(an hz).trans (e1 z o e hz)
 refine q t mo _ (fun z o e hz=>e2 z o (g1 _ _ e) fun h=>hz (h▸.head _)) ⟨⟨dx,e2 _ _ (g1 _ _ h1) ax,af _ _ _⟩,Trs.one (e2 _ _ xt tx) (e2 _ _ xd dxx),(an mx).trans (af _ _ _),?_,rfl,Ord.one,Kp.nil⟩ ht0 (g1.none hmo1)
 rintro rfl
 rw[xt] at hmo1;cases hmo1
theorem m_need:MtAt C mN 0 "need" (sp_need C.ns):=by
 apply MtAt.mk (xs:=["self","number"]) G.ok B KX (Hd.m_need P) (by subst hN;exact Hd.mn_need P)<;>(try trivial)
 case hT=>
  apply HS.cons
  ·apply r3
   ·trivial
   ·exact HS.cons oh HS.nil
   ·exact HS.nil
  ·exact HS.nil
 case hspec=>
 rintro _ σ Q ⟨K,b,t,mo,fs,ps,n,rfl,B,h0,h1,q⟩
 refine⟨rfl,?_⟩
 refine x1_2 B.obj fun dx hb hx=>?_
 refine (ui ?_)
 refine aE rfl ?_
 refine (uh ?_)
 refine aE rfl ?_
 refine (aI (decide_eq_true h0) ?_)
 refine⟨_,dx,_,_,rfl,hb,hx,rfl,bb B.tr ?_⟩
 refine aE (congrArg not (decide_eq_true h1)) ?_
 exact q
theorem m_many:MtAt C mN 0 "many" (sp_many C.ns):=by
 apply MtAt.mk (xs:=["self"]) G.ok B KX (Hd.m_many P) (by subst hN;exact Hd.mn_many P)<;>(try trivial)
 case hspec=>
 rintro _ σ Q ⟨K,b,t,mo,fs,ps,rfl,B,q⟩
 refine⟨rfl,?_⟩
 refine x1_2 B.obj fun dx hb hx=>?_
 exact⟨_,dx,_,_,rfl,hb,hx,rfl,bb B.tr q⟩
theorem m_tree:MtAt C mN 1 "tree" (sp_tree C.ns):=by
 have h0:=m_need G hz B KX hN
 apply MtAt.mk (xs:=["self","number"]) G.ok B KX (Hd.m_tree P) (by subst hN;exact Hd.mn_tree P)<;>(try trivial)
 case hspec=>
 rintro _ σ Q ⟨K,b,t,mo,fs,ps,n,f,rfl,B,h0,hf,q⟩
 refine⟨rfl,?_⟩
 refine⟨B.isI rfl,⟨K,b,t,mo,fs,ps,n,rfl,B,h0,toNat_lt h0 hf,?_⟩⟩
 refine x1_2 B.obj fun dx hb hx=>?_
 refine⟨_,dx,_,_,rfl,hb,hx,rfl,(bz B.tr h0 hf fun d dd=>?_)⟩
 obtain ⟨kvs,ep,e,i⟩:=dd
 exact .inl (bR e fun r er hr=>q r _ (Grow.refl.upd hr) hr ⟨kvs,er,af _ _ _,i⟩)
theorem m_parents:MtAt C mN 1 "parents" (sp_parents C.ns):=by
 have h0:=m_need G hz B KX hN
 apply MtAt.mk (xs:=["self","number"]) G.ok B KX (Hd.m_parents P) (by subst hN;exact Hd.mn_parents P)<;>(try trivial)
 case hspec=>
 rintro _ σ Q ⟨K,b,t,mo,fs,ps,n,l,rfl,B,h0,hf,q⟩
 refine⟨rfl,?_⟩
 refine⟨B.isI rfl,⟨K,b,t,mo,fs,ps,n,rfl,B,h0,B.len▸toNat_lt h0 hf,?_⟩⟩
 refine x1_2 B.obj fun dx hb hx=>?_
 exact⟨_,dx,_,_,rfl,hb,hx,rfl,(fh B.md h0 hf q)⟩
theorem m_put_down:MtAt C mN 0 "put_down" (sp_put_down C.ns):=by
 apply MtAt.mk (xs:=["self","tree","parents"]) G.ok B KX (Hd.m_put_down P) (by subst hN;exact Hd.mn_put_down P)<;>(try trivial)
 case hspec=>
 rintro _ σ Q ⟨K,b,t,mo,fs,ps,d,f,l,rfl,B,dd,hfs,l2',ln,hl,q⟩
 refine⟨rfl,?_⟩
 refine x1_2 B.obj fun dx hb hx=>?_
 obtain ⟨ads,ht,al,aa⟩:=B.tr
 have hm:=B.md
 refine⟨_,dx,_,_,rfl,hb,hx,rfl,⟨_,ht⟩,(aD ht (by rw[List.length_map,al];exact Nat.lt_trans hfs (by decide)) ?_)⟩
 have k1:Keep [t,mo] σ (am σ t (.list (ads.map V.ref++[.ref d]))):=fun z o e hz=>(an (show z≠t from fun h=>hz (h▸.head _))).trans e
 have xm:am σ t (.list (ads.map V.ref++[.ref d])) mo=some (.list (aJ ps)):=(an B.ne.symm).trans hm
 have xt:=af σ t (.list (ads.map V.ref++[.ref d]))
 generalize am σ t (.list (ads.map V.ref++[.ref d]))=σ₁ at k1 xm xt ⊢
 have lst:Lst [t,mo] σ:=fun s hs=>by
  rcases List.mem_cons.mp hs with rfl | hs
  ·exact⟨_,ht⟩
  ·cases List.mem_singleton.mp hs;exact⟨_,hm⟩
 have out:∀z o,σ z=some o->(∀xs,o≠.list xs)->z∉[t,mo]:=fun z o e ho hz=>by
  refine x1_1 (lst z hz) fun xs h=>?_
  rw[e] at h;cases h
  exact ho _ rfl
 have ob:=out b _ hb fun _ h=>(by cases h)
 have ox:=out dx _ hx fun _ h=>(by cases h)
 refine⟨_,dx,_,_,rfl,k1 _ _ hb ob,k1 _ _ hx ox,rfl,⟨_,xm⟩,(aD xm (by unfold aJ;rw[List.length_map,B.len];exact Nat.lt_trans hfs (by decide)) ?_)⟩
 have k2:Keep [t,mo] σ (am σ₁ mo (.list (aJ ps++[.tup (l.map .int)]))):=fun z o e hz=>(an (show z≠mo from fun h=>hz (h▸.tail _ (.head _)))).trans (k1 z o e hz)
 have xt2:am σ₁ mo (.list (aJ ps++[.tup (l.map .int)])) t=some (.list (ads.map V.ref++[.ref d])):=(an B.ne).trans xt
 have xm2:=af σ₁ mo (.list (aJ ps++[.tup (l.map .int)]))
 generalize am σ₁ mo (.list (aJ ps++[.tup (l.map .int)]))=σ₂ at k2 xt2 xm2 ⊢
 refine⟨_,dx,_,_,rfl,k2 _ _ hb ob,k2 _ _ hx ox,rfl,gO xt2 ?_⟩
 have e:((ads.map V.ref++[V.ref d]).length:Int)-1=fs.length:=by
  rw[List.length_append,List.length_map,al];exact ge
 show Q (.int (((ads.map V.ref++[V.ref d]).length:Int)-1)) σ₂
 rw[e]
 refine q σ₂ k2 ⟨⟨dx,k2 _ _ hb ob,k2 _ _ hx ox⟩,Trs.snoc xt2 al (fun i d f e1 e2=>(aa i d f e1 e2).keep k2 lst) (dd.keep k2 lst),?_,B.ne,?_,B.ord.snoc l2' ln (B.len▸hl) (B.len▸hfs),B.un⟩ fun z hz hs xs e hx=>?_
 ·rw[xm2];unfold aJ;rw[List.map_append];rfl
 ·rw[List.length_append,List.length_append,B.len];rfl
 ·rw[xt2] at e;cases e
  exact (List.mem_append.mp hx).elim (hs _ ht) fun h=>hz (by cases List.mem_singleton.mp h;rfl)
end
section
variable {ps:List (List Int)}
theorem Anc.le (o:Ord ps) {n x:Int} (h:Anc ps n x) (h0:0<=n):0<=x/\x<=n:=by
 induction h with
 |self n=>exact⟨h0,Int.le_refl _⟩
 |up h1 h2 _ ih=>
  have h3:=o.lt _ _ h1 _ h2
  have h4:=ih h3.1
  exact⟨h4.1,Int.le_trans h4.2 (Int.le_of_lt (by rw[Int.toNat_of_nonneg h0] at h3;exact h3.2))⟩
theorem Anc.step {n k p:Int} {l:List Int} (h:Anc ps n k) (hl:ps[k.toNat]?=some l) (hp:p∈l):Anc ps n p:=by
 induction h with
 |self n=>exact .up hl hp (.self p)
 |up h1 h2 _ ih=>exact .up h1 h2 (ih hl)
theorem tA (o:Ord ps):∀(k:Nat),k < ps.length->Anc ps k 0:=by
 intro k
 induction k using Nat.strongRecOn with
 |_ k ih=>
  intro hk
  rcases Nat.eq_zero_or_pos k with rfl | hp
  ·exact .self _
  ·have e:ps[k]?=some ps[k]:=List.getElem?_eq_getElem hk
   refine x1_1 (List.exists_mem_of_ne_nil _ (o.some k _ e hp)) fun p hm=>?_
   have hl:=o.lt k _ e p hm
   obtain ⟨j,rfl⟩:=Int.eq_ofNat_of_zero_le hl.1
   have hj:j < k:=Int.ofNat_lt.mp hl.2
   exact .up (n:=(k:Int)) e hm (ih j hj (Nat.lt_trans hj hk))
theorem sB (o:Ord ps) {n:Int} (h0:0<=n) (h1:n < ps.length):Anc ps n 0:=by
 obtain ⟨j,rfl⟩:=Int.eq_ofNat_of_zero_le h0
 exact tA o j (Int.ofNat_lt.mp h1)
theorem Near.uniq {n m M M':Int} (a:Near ps n m M) (b:Near ps n m M'):M=M':=Int.le_antisymm (b.max M a.a1 a.a2) (a.max M' b.a1 b.a2)
end
theorem qi {l:List Int} (h:l.Nodup) (hb:∀x∈l,0<=x/\x < 200):l.length<=200:=by
 have:=List.Nodup.length_le_of_subset (l₂:=(List.range 200).map Int.ofNat) h fun x hx=>by
  have hx:=hb x hx
  exact List.mem_map.mpr ⟨x.toNat,List.mem_range.mpr ((Int.toNat_lt hx.1).mpr hx.2),Int.toNat_of_nonneg hx.1⟩
 rwa [List.length_map,List.length_range] at this
structure Found (ps:List (List Int)) (n:Int) (i:Nat) (ks:List Int):Prop where
 anc:∀x∈ks,Anc ps n x
 self:n∈ks
 up:∀x∈ks,n-i < x->∀l,ps[x.toNat]?=some l->∀p∈l,p∈ks
 nd:ks.Nodup
structure FoundJ (ps:List (List Int)) (n:Int) (ks l l' ks':List Int):Prop where
 anc:∀x∈ks',Anc ps n x
 sub:∀x∈ks,x∈ks'
 got:∀x∈l',x∈ks'
 only:∀x∈ks',x∈ks\/x∈l
 nd:ks'.Nodup
theorem Found.all {ps:List (List Int)} {n:Int} {i:Nat} {ks:List Int} (F:Found ps n i ks) (o:Ord ps) (hi:n < i) (h0:0<=n):∀x,x∈ks↔Anc ps n x:=fun x=>by
 refine⟨F.anc x,fun h=>?_⟩
 have key:∀{y x:Int},Anc ps y x->y∈ks->x∈ks:=by
  intro y x h
  induction h with
  |self n=>exact id
  |up h1 h2 _ ih=>exact fun hy=>ih (F.up _ hy (Int.lt_of_lt_of_le (Int.sub_neg_of_lt hi) ((F.anc _ hy).le o h0).1) _ h1 _ h2)
 exact key h F.self
inductive ElI (ps:List (List Int)) (n:Int) (f b:Addr) (σ₀:ae) (i:Nat) (m:aq) (σ':ae):Prop
 |mk (kvs:List (Int×V)) (ep:Nat) (x:σ' f=some (.idict kvs ep)) (F:Found ps n i (kvs.map (·.1))) (g:Grow σ₀ σ') (ms:m "self"=some (.ref b)) (mf:m "found"=some (.ref f)):ElI ps n f b σ₀ i m σ'
inductive ElJ (ps:List (List Int)) (n:Int) (f b:Addr) (σ₀:ae) (ks l l':List Int) (m:aq) (σ':ae):Prop
 |mk (kvs:List (Int×V)) (ep:Nat) (x:σ' f=some (.idict kvs ep)) (F:FoundJ ps n ks l l' (kvs.map (·.1))) (g:Grow σ₀ σ') (ms:m "self"=some (.ref b)) (mf:m "found"=some (.ref f)):ElJ ps n f b σ₀ ks l l' m σ'
theorem lq {l:List Int} {i:Nat} {v:V} (h:(l.map V.int)[i]?=some v):∃x,l[i]?=some x/\v=.int x:=by
 rw[List.getElem?_map] at h
 obtain ⟨x,h1,rfl⟩:=Option.map_eq_some_iff.mp h
 exact⟨x,h1,rfl⟩
theorem kh (x:Int):∀ys:List Int,bW (.int x) (ys.map .int)=some (decide (x∈ys))
 |[]=>rfl
 |y::r=>by
  have ih:=kh x r
  rw[List.map_cons]
  unfold bW
  rw[ih]
  show some (decide (y=x)||decide (x∈r))=_
  refine congrArg some ?_
  by_cases h:y=x
  ·rw[decide_eq_true h,Bool.true_or];exact (decide_eq_true (h▸.head _)).symm
  ·rw[decide_eq_false h,Bool.false_or]
   by_cases h2:x∈r
   ·rw[decide_eq_true h2];exact (decide_eq_true (.tail _ h2)).symm
   ·rw[decide_eq_false h2];exact (decide_eq_false fun hh=>(List.mem_cons.mp hh).elim (fun e=>h e.symm) h2).symm
noncomputable def tv (p:Int->Bool):V->Option V
 |.int x=>if p x=true then some (.int x) else Option.none
 |_=>Option.none
theorem pb {p:Int->Bool} {x:Int}:tv p (.int x)=if p x=true then some (.int x) else Option.none:=rfl
theorem jt (p:Int->Bool):∀us:List Int,(us.map V.int).filterMap (tv p)=(us.filter p).map V.int
 |[]=>rfl
 |u::us=>by
  rw[List.map_cons,List.filterMap_cons,pb,jt p us]
  by_cases h:p u=true
  ·rw[if_pos h,List.filter_cons_of_pos h];rfl
  ·rw[if_neg h,List.filter_cons_of_neg h]
theorem qV {K:List Str} {dl:List Dd} (h:Kp K) (hl:(ct K dl).length<=1000) (ok:∀d∈dl,OkD d):Kp (ct K dl):=
 ⟨hl,fu h.len ok,fun hx=>(List.mem_append.mp hx).elim (fun hx=>by
  refine x1_2 (List.mem_map.mp (List.mem_reverse.mp hx)) fun d h1 h2=>?_
  exact (ok d h1).elim (fun e=>absurd (e.symm.trans h2) (by decide +kernel)) fun g=>g.here h2) h.here⟩
theorem ja {K:List Str} {dl:List Dd}:∀x∈K,x∈ct K dl:=fun _ h=>List.mem_append_right _ h
section
variable {C:Cx} (G:Gl C Hd.vw) (hz:C.held=none) {bk N:Addr} {mN:Str->Option Value} (B:Bk C bk N mN) {P:Params} (KX:(Hd.kk P).In C.hB) (hN:N=Hd.bkN)
include G hz B KX hN
theorem m_elders:MtAt C mN 1 "elders" (sp_elders C.ns):=by
 have h0:=m_need G hz B KX hN
 apply MtAt.mk (xs:=["self","number"]) G.ok B KX (Hd.m_elders P) (by subst hN;exact Hd.mn_elders P)<;>(try trivial)
 case hspec=>
 rintro _ σ Q ⟨K,b,t,mo,fs,ps,n,rfl,B,h0,h1,q⟩
 refine⟨rfl,?_⟩
 have few:n < 200:=Int.lt_of_lt_of_le h1 (Int.ofNat_le.mpr (B.len▸B.ord.few))
 have o:=B.ord
 refine x1_2 B.obj fun dx hb hx=>?_
 refine⟨B.isI rfl,⟨K,b,t,mo,fs,ps,n,rfl,B,h0,h1,?_⟩⟩
 refine⟨n,rfl,fun f ef hf=>?_⟩
 have len:∀ks:List Int,ks.Nodup->(∀x∈ks,Anc ps n x)->ks.length<=200:=fun ks nd ha=>qi nd fun x hx=>let h:=(ha x hx).le o h0;⟨h.1,Int.lt_of_le_of_lt h.2 few⟩
 refine⟨⟨rfl,rfl,h0,Int.lt_trans few (by decide)⟩,?_⟩
 refine aC (fun i m σ'=>ElI ps n f b σ i m σ') (fun _ _ _=>False) (fun _ _ _ _=>trivial) _ ?_ ?_ (fun _ _ _ h=>h.elim) _ _ ⟨[(n,.bool true)],ef,af _ _ _,⟨?_,.head _,?_,?_⟩,Grow.refl.upd hf,rfl,rfl⟩
 ·rintro i v m σ' Q' hv ⟨kvs,ep,xk,F,g,ms,mf⟩ n1 n2 n3
  obtain ⟨hi,rfl⟩:=qs hv
  have hk0:0<=n-i:=by omega
  have B':=B.grow g
  refine⟨_,rfl,?_⟩
  refine atK.of ((aj (by decide)).trans mf) (zQ xk ?_)
  by_cases hin:(n-(i:Int))∈kvs.map (·.1)
  ·refine aI (by rw[eZ];exact decide_eq_true hin) ?_
   have hlt:(n-(i:Int)).toNat < ps.length:=by rw[B.len];omega
   have hl:=List.getElem?_eq_getElem hlt
   generalize ps[(n-(i:Int)).toNat]=l at hl
   refine atK.of ((aj (by decide)).trans ms) ⟨_,dx,_,_,rfl,g _ _ hb,g _ _ hx,rfl,(fh B'.md hk0 hl ?_)⟩
   have hlo:=o.lt _ _ hl
   refine aC (fun j m σ''=>ElJ ps n f b σ (kvs.map (·.1)) l (l.take j) m σ'') (fun _ _ _=>False) (fun _ _ _ _=>trivial) _ ?_ ?_ (fun _ _ _ h=>h.elim) _ _ ⟨kvs,ep,xk,⟨F.anc,fun _ h=>h,fun _ h=>(by cases h),fun _ h=>.inl h,F.nd⟩,g,(aj (by decide)).trans ms,(aj (by decide)).trans mf⟩
   ·rintro j v m' σ'' Q'' hv' ⟨kvs',ep',xk',J,g',ms',mf'⟩ n1' n2' n3'
    obtain ⟨p,hp,rfl⟩:=lq hv'
    have hpl:=List.mem_of_getElem? hp
    refine⟨_,rfl,?_⟩
    have hlen:=len _ J.nd J.anc
    rw[List.length_map] at hlen
    refine atK.of ((aj (by decide)).trans mf') ((v5 xk' (Nat.lt_of_le_of_lt hlen (by decide)) fun ep''=>?_))
    have key:=iH kvs' p (.bool true)
    refine n1' _ _ ⟨_,ep'',af _ _ _,⟨fun x hx=>?_,fun x hx=>(key x).mpr (.inr (J.sub x hx)),fun x hx=>(key x).mpr ?_,fun x hx=>?_,gP J.nd⟩,g'.over hf,(aj (by decide)).trans ms',(aj (by decide)).trans mf'⟩
    ·rcases (key x).mp hx with rfl | hx
     ·exact (F.anc _ hin).step hl hpl
     ·exact J.anc x hx
    ·rw[List.take_add_one,hp] at hx
     exact (List.mem_append.mp hx).elim (fun h=>.inr (J.got x h)) fun h=>.inl (List.mem_singleton.mp h)
    ·rcases (key x).mp hx with rfl | hx
     ·exact .inr hpl
     ·exact J.only x hx
   ·rintro m' σ'' ⟨kvs',ep',xk',J,g',ms',mf'⟩
    rw[List.length_map,List.take_length] at J
    refine n1 _ _ ⟨kvs',ep',xk',⟨J.anc,J.sub _ F.self,fun x hx hlt' l' hl' p hp=>?_,J.nd⟩,g',ms',mf'⟩
    by_cases hx2:x=n-i
    ·subst hx2
     rw[hl] at hl';cases hl'
     exact J.got p hp
    ·rcases J.only x hx with hx3 | hx3
     ·exact J.sub p (F.up x hx3 (by omega) l' hl' p hp)
     ·have:=hlo x hx3
      omega
  ·refine aE (by rw[eZ];exact decide_eq_false hin) ?_
   refine n1 _ _ ⟨kvs,ep,xk,⟨F.anc,F.self,fun x hx hlt' l' hl' p hp=>?_,F.nd⟩,g,(aj (by decide)).trans ms,(aj (by decide)).trans mf⟩
   by_cases hx2:x=n-i
   ·subst hx2;exact absurd hx hin
   ·exact F.up x hx (by omega) l' hl' p hp
 ·rintro m σ' ⟨kvs,ep,xk,F,g,ms,mf⟩
  rw[qr] at F
  have hall:=F.all o (by omega) h0
  have hlen:=len _ F.nd F.anc
  refine .inr (atK.of mf ⟨kvs,ep,xk,fun ks hp r hr=>?_⟩)
  refine q ks (fun x=>hp.mem_iff.trans (hall x)) (by rw[hp.length_eq];exact Nat.le_trans hlen (by decide)) r _ (g.upd hr) (g.none hr) (af _ _ _)
 ·intro x hx
  cases List.mem_singleton.mp hx
  exact .self _
 ·intro x hx hlt
  cases List.mem_singleton.mp hx
  exact absurd hlt (by show ¬n-((0:Nat):Int) < n;omega)
 ·exact List.nodup_cons.mpr ⟨fun h=>(by cases h),List.nodup_nil⟩
theorem m_nearest:MtAt C mN 2 "nearest" (sp_nearest C.ns):=by
 have h0:=m_elders G hz B KX hN
 apply MtAt.mk (xs:=["self","one","other"]) G.ok B KX (Hd.m_nearest P) (by subst hN;exact Hd.mn_nearest P)<;>(try trivial)
 case hspec=>
 rintro _ σ Q ⟨K,b,t,mo,fs,ps,n,k,rfl,B,h0,h1,k0,k1,q⟩
 refine⟨rfl,?_⟩
 have z1:=sB B.ord h0 (B.len▸h1)
 have z2:=sB B.ord k0 (B.len▸k1)
 refine⟨B.isI rfl,⟨K,b,t,mo,fs,ps,n,rfl,B,h0,h1,fun xs e1 _ a1 σ₁ g1 _ x1=>?_⟩⟩
 have B1:=B.grow g1
 refine⟨B1.isI rfl,⟨K,b,t,mo,fs,ps,k,rfl,B1,k0,k1,fun ys e2 ly a2 σ₂ g2 _ x2=>i6 x2 ?_⟩⟩
 refine bK (fun s=>s=σ₂) (fun s hs=>by rw[hs];exact x2) (tv fun x=>decide (x∈xs)) _ _ _ _ (by rw[List.length_map];exact Nat.le_trans (Nat.add_le_add_left ly _) (by decide)) ?_ rfl ?_
 ·rintro v hv s Q₁ Q₂ rfl n1 n2
  obtain ⟨x,hx,rfl⟩:=List.mem_map.mp hv
  refine⟨_,rfl,?_⟩
  refine ((zP (g2 _ _ x1) (kh x xs) ?_))
  by_cases h:x∈xs
  ·refine aI (decide_eq_true h) ?_
   exact n1 _ _ rfl (if_pos (decide_eq_true h))
  ·refine aE (decide_eq_false h) ?_
   exact n2 _ rfl (if_neg fun e=>h (of_decide_eq_true e))
 ·rintro s rfl r hr
  rw[List.nil_append,jt]
  have mem:∀x,x∈ys.filter (fun x=>decide (x∈xs))↔Anc ps k x/\Anc ps n x:=fun x=>by rw[List.mem_filter,e2,decide_eq_true_eq,e1]
  refine .inr (pR (af _ _ _) (List.length_pos_of_mem ((mem 0).mpr ⟨z2,z1⟩)) fun M hM hmax=>?_)
  have hM:=(mem M).mp hM
  exact q M _ ((g1.trans g2).upd hr) ⟨hM.2,hM.1,fun y y1 y2=>hmax y ((mem y).mpr ⟨y2,y1⟩)⟩
end
section
variable {C:Cx} (G:Gl C Hd.vw) (hz:C.held=none) {ad:String->Addr} (Tb:XTab C oo nJ ad) (g1:GInt C "MOST_PARTS" 8) (g2:GInt C "LONGEST_PART" 12) (g3:GStr C "SIGNS" dA) {bk N:Addr} {mN:Str->Option Value} (B:Bk C bk N mN) {P:Params} (KX:(Hd.kk P).In C.hB) (hN:N=Hd.bkN)
include G hz Tb g1 g2 g3 B KX hN
theorem m_grow:MtAtX C mN 4 "grow" (spX_grow C.ns):=by
 have h0:=m_need G hz B KX hN
 have h1:=m_put_down G hz B KX hN
 have h2:=nW G hz Tb g1 g2 g3
 apply MtAtX.mk (xs:=["self","parent","deeds"]) G.ok B KX (Hd.m_grow P) (by subst hN;exact Hd.mn_grow P)<;>(try trivial)
 case hspec=>
 rintro _ σ Q X ⟨K,K',b,t,mo,fs,ps,n,f,L,dl,rfl,B,h0,hf,xL,ok,rfl,hK,hfs,qE,qO⟩
 refine⟨rfl,?_⟩
 have hn:=toNat_lt h0 hf
 refine x1_2 B.obj fun dx hb hx=>?_
 refine⟨B.isI rfl,⟨K,b,t,mo,fs,ps,n,rfl,B,h0,hn,?_⟩⟩
 refine⟨B.isI rfl,⟨_,dx,_,_,rfl,hb,hx,rfl,(bz B.tr h0 hf fun d dd=>⟨K,d,L,f,dl,rfl,dd,xL,?_,B.un.len,ok,qE,fun g hg r σ₁ g1 hr dr=>?_⟩)⟩⟩
 ·rw[List.length_append,List.length_reverse,List.length_map,Nat.add_comm] at hK;exact hK
 ·have B1:=(B.grow g1).more (ja (dl:=dl)) (qV B.un hK ok)
  refine⟨l1,⟨_,b,t,mo,fs,ps,r,g,[n],rfl,B1,dr,hfs,Nat.le_of_ble_eq_true rfl,fun e=>(by cases e),fun p hp=>(by cases List.mem_singleton.mp hp;exact⟨h0,hn⟩),fun σ₂ k2 B2 _=>?_⟩⟩
  exact qO g hg σ₂ (g1.keep.trans k2) B2
theorem m_merge:MtAtX C mN 6 "merge" (spX_merge C.ns):=by
 have h0:=m_need G hz B KX hN
 have h1:=m_put_down G hz B KX hN
 have h2:=m_nearest G hz B KX hN
 have h3:=qj G hz Tb
 apply MtAtX.mk (xs:=["self","one","other","picks"]) G.ok B KX (Hd.m_merge P) (by subst hN;exact Hd.mn_merge P)<;>(try trivial)
 case hspec=>
 rintro _ σ Q X ⟨K,b,t,mo,fs,ps,n,m,p,L,pk,M,f,g,h,rfl,B,n0,m0,dp,hL,nr,M0,hf,hg,hh,hfs,qS,qN,qC,qO⟩
 refine⟨rfl,?_⟩
 have hn:=toNat_lt n0 hg
 have hm:=toNat_lt m0 hh
 refine⟨B.isI rfl,⟨K,b,t,mo,fs,ps,n,rfl,B,n0,hn,?_⟩⟩
 refine⟨B.isI rfl,⟨K,b,t,mo,fs,ps,m,rfl,B,m0,hm,?_⟩⟩
 refine ((aZ rfl ?_))
 by_cases he:n=m
 ·refine aI (decide_eq_true he) ?_
  exact qS he _ Grow.refl
 refine aE (decide_eq_false he) ?_
 refine⟨B.isI rfl,(⟨K,b,t,mo,fs,ps,n,m,rfl,B,n0,hn,m0,hm,fun M' σ₁ g1 nr'=>?_⟩)⟩
 cases nr.uniq nr'
 have B1:=B.grow g1
 refine x1_2 B1.obj fun dx hb hx=>?_
 refine⟨_,dx,_,_,rfl,hb,hx,rfl,(bz B1.tr M0 hf fun da Da=>?_)⟩
 refine⟨_,dx,_,_,rfl,hb,hx,rfl,(bz B1.tr n0 hg fun db Db=>?_)⟩
 refine⟨_,dx,_,_,rfl,hb,hx,rfl,(bz B1.tr m0 hh fun dc Dc=>?_)⟩
 refine⟨K,da,db,dc,f,g,h,p,L,pk,rfl,⟨Da,Db,Dc,B.un⟩,dp.grow g1,hL,fun hx σ₂ g2=>qN he hx _ (g1.trans g2),fun hx hy σ₂ g2=>qC he hx hy _ (g1.trans g2),fun hx hy r σ₂ g2 hr dr=>?_⟩
 have B2:=B1.grow g2
 refine⟨B2.isI rfl,(((((.inl ⟨l2,⟨K,b,t,mo,fs,ps,r,cu f g h pk,[min n m,max n m],rfl,B2,dr,hfs,Nat.le_of_ble_eq_true rfl,fun e=>(by cases e),fun p hp=>?_,fun σ₃ k3 B3 s3=>?_⟩⟩)))))⟩
 ·rcases List.mem_cons.mp hp with rfl | hp
  ·exact⟨Int.le_min.mpr ⟨n0,m0⟩,Int.lt_of_le_of_lt (Int.min_le_left n m) hn⟩
  ·cases List.mem_singleton.mp hp
   exact⟨Int.le_trans n0 (Int.le_max_left n m),Int.max_lt.mpr ⟨hn,hm⟩⟩
 ·obtain ⟨ads,ht,_,_⟩:=B.tr
  exact qO he hx hy σ₃ ((g1.trans g2).keep.trans k3) B3 fun z hz hs=>s3 z (fun e=>hz (e▸g1.none hr)) (hs.grow (g1.trans g2) ht)
end
theorem ij {g:Tgt} {inv:ae->Prop} {T:ET} {m:aq} (all:List V) (P:List V->ae->Prop) (hinv:∀ys σ,P ys σ->inv σ) (hz:all.length<=1048576) {Q:List V->ae->Prop}
  (step:∀acc v σ (Q':V->ae->Prop),all[acc.length]?=some v->P acc σ->(∀y σ',P (acc++[y]) σ'->Q' y σ')->∃m',bG g v m=some m'/\T m' σ Q')
  (q:∀ys σ,P ys σ->ys.length=all.length->Q ys σ):∀(items acc:List V) (σ:ae),all.drop acc.length=items->acc.length<=all.length->P acc σ->cq g inv tT T m items acc σ Q
 |[],acc,σ,e,h,p=>⟨hinv _ _ p,q acc σ p (Nat.le_antisymm h (List.drop_eq_nil_iff.mp e))⟩
 |v::r,acc,σ,e,h,p=>by
  have hlt:acc.length < all.length:=sK fun hh=>by rw[List.drop_eq_nil_of_le hh] at e;cases e
  rw[List.drop_eq_getElem_cons hlt] at e
  injection e with e1 e2
  obtain ⟨m',h1,h2⟩:=step acc v σ (fun y σ₂=>acc.length < 1048576/\cq g inv tT T m r (acc++[y]) σ₂ Q) (by rw[<-e1];exact List.getElem?_eq_getElem hlt) p fun y σ' p'=>
   ⟨Nat.lt_of_lt_of_le hlt hz,ij all P hinv hz step q r (acc++[y]) σ' (by rw[List.length_append];exact e2) (by rw[List.length_append];exact hlt) p'⟩
  exact⟨hinv _ _ p,m',h1,h2⟩
theorem xe {σ:ae} {Q:V->ae->Prop} {d z:Addr} {a b:Bool} (hd:σ d=some (.list [.bool a,.bool b])) (hz:σ z=some (.list [.bool true,.bool true])) (q:Q (.bool (a&&b)) σ):ni (.ref d) (.ref z) σ Q:=⟨_,.inr (.mk d z a b hd hz),q⟩
theorem oQ {σ:ae} {Q:V->ae->Prop} {x y:Int} (q:Q (.int (x-y)) σ):pn (.int x) (.int y) σ Q:=q
structure Flg (ads:List Addr) (t:Addr) (N:Nat) (A B:Nat->Bool) (σ:ae):Prop where
 x:σ t=some (.list (ads.map V.ref))
 len:ads.length=N
 at_:∀(k:Nat) d,ads[k]?=some d->σ d=some (.list [.bool (A k),.bool (B k)])
noncomputable def upF (A:Nat->Bool) (L:Nat) (S:List Int):Nat->Bool:=fun k=>A k||(A L&&decide ((k:Int)∈S))
section
variable {A B:Nat->Bool} {L:Nat} {S:List Int}
theorem dE {k:Nat} (h:(k:Int)∉S):upF A L S k=A k:=by
 unfold upF
 rw[decide_eq_false h,Bool.and_false,Bool.or_false]
theorem lR {p:Nat}:upF A L (S++[(p:Int)]) p=(upF A L S p||A L):=by
 unfold upF
 rw[decide_eq_true (List.mem_append_right _ (.head _))]
 cases A p<;>cases A L<;>cases decide ((p:Int)∈S)<;>rfl
theorem oB {p k:Nat} (h:k≠p):upF A L (S++[(p:Int)]) k=upF A L S k:=by
 unfold upF
 by_cases hk:(k:Int)∈S
 ·rw[decide_eq_true hk,decide_eq_true (List.mem_append_left _ hk)]
 ·have hn:¬(k:Int)∈S++[(p:Int)]:=fun hh=>(List.mem_append.mp hh).elim hk fun hh=>h (Int.ofNat.inj (List.mem_singleton.mp hh))
  rw[decide_eq_false hk,decide_eq_false hn]
theorem sj {k:Nat} (h:A k=true):upF A L S k=true:=by unfold upF;rw[h];rfl
theorem kA {k:Nat} (h:upF A L S k=true):A k=true\/A L=true/\(k:Int)∈S:=by
 unfold upF at h
 rw[Bool.or_eq_true,Bool.and_eq_true,decide_eq_true_eq] at h
 exact h
theorem s6 {k:Nat} (h:A L=true) (hk:(k:Int)∈S):upF A L S k=true:=by
 unfold upF
 rw[h,decide_eq_true hk]
 cases A k<;>rfl
theorem Flg.put {ads:List Addr} {t z:Addr} {N p:Nat} {σ:ae} (F:Flg ads t N (upF A L S) (upF B L S) σ) (hp:p < N) (hz:σ z=Option.none) (h:(L:Int)∉S) :
  Flg (ads.set p z) t N (upF A L (S++[(p:Int)])) (upF B L (S++[(p:Int)])) (am (am σ z (.list [.bool (upF A L S p||upF A L S L),.bool (upF B L S p||upF B L S L)])) t (.list ((ads.map V.ref).set p (.ref z)))) where
 x:=by rw[List.map_set];exact af _ _ _
 len:=by rw[List.length_set];exact F.len
 at_ k d e:=by
  have zt:z≠t:=by rintro rfl;rw[F.x] at hz;cases hz
  rw[List.getElem?_set] at e
  by_cases hk:p=k
  ·rw[if_pos hk,if_pos (by rw[F.len];exact hp)] at e
   cases e
   subst hk
   rw[an zt,af,lR,lR,dE h,dE h]
  ·rw[if_neg hk] at e
   have hd:=F.at_ k d e
   have dt:d≠t:=by
    rintro rfl
    rw[F.x] at hd
    injection hd with hd
    injection hd with hd
    cases ads with
    |nil=>cases e
    |cons a r=>injection hd with hd _;cases hd
   rw[an dt,aW hz hd,oB (Ne.symm hk),oB (Ne.symm hk)]
end
structure Up (ps:List (List Int)) (n i:Nat) (A:Nat->Bool):Prop where
 snd:∀k:Nat,k < ps.length->A k=true->Anc ps n k
 self:A n=true
 up:∀k:Nat,k < ps.length->ps.length<=k+i->A k=true->∀l,ps[k]?=some l->∀p∈l,A p.toNat=true
section
variable {ps:List (List Int)} {n i L:Nat} {A B:Nat->Bool} {l:List Int}
theorem Up.all (U:Up ps n i A) (o:Ord ps) (hn:n < ps.length) {x:Int} (h:Anc ps n x) (hx:(ps.length:Int)<=x+i+1):A x.toNat=true:=by
 have key:∀{y x:Int},Anc ps y x->0<=y->y < ps.length->A y.toNat=true->(ps.length:Int)<=x+i+1->A x.toNat=true:=by
  intro y x h
  induction h with
  |self n=>exact fun _ _ h _=>h
  |up h1 h2 h3 ih=>
   intro y0 y1 hA hx
   have lt:=o.lt _ _ h1 _ h2
   have le:=(h3.le o lt.1).2
   exact ih lt.1 (by omega) (U.up _ (by omega) (by omega) hA _ h1 _ h2) hx
 exact key h (Int.natCast_nonneg _) (Int.ofNat_lt.mpr hn) U.self hx
theorem Up.next (U:Up ps n i A) (o:Ord ps) (hL:L+i+1=ps.length) (hl:ps[L]?=some l):Up ps n (i+1) (upF A L l) where
 snd k hk hA:=(kA hA).elim (U.snd k hk) fun h=>(U.snd L (by omega) h.1).step hl h.2
 self:=sj U.self
 up k hk hki hA l' hl' p hp:=by
  by_cases e:k=L
  ·subst e
   rw[hl] at hl';cases hl'
   have hAL:A k=true:=(kA hA).elim id fun h=>h.1
   exact s6 hAL (by rw[Int.toNat_of_nonneg (o.lt _ _ hl p hp).1];exact hp)
  ·rcases kA hA with h | h
   ·exact sj (U.up k hk (by omega) h l' hl' p hp)
   ·have:=(o.lt _ _ hl _ h.2).2
    omega
theorem rz (o:Ord ps) (hL:L+i+1=ps.length) (hl:ps[L]?=some l) (nb:∀k:Nat,k < ps.length->ps.length<=k+i->¬(A k=true/\B k=true)) (hno:¬(A L=true/\B L=true)):∀k:Nat,k < ps.length->ps.length<=k+(i+1)->¬(upF A L l k=true/\upF B L l k=true):=fun k hk hki h=>by
 have ho:(k:Int)∉l:=fun hh=>by
  have:=(o.lt _ _ hl _ hh).2
  omega
 rw[dE ho,dE ho] at h
 by_cases e:k=L
 ·exact hno (e▸h)
 ·exact nb k hk (by omega) h
theorem ry {m:Nat} (o:Ord ps) (U:Up ps n i A) (W:Up ps m i B) (hn:n < ps.length) (hm:m < ps.length) (hL:L+i+1=ps.length) (nb:∀k:Nat,k < ps.length->ps.length<=k+i->¬(A k=true/\B k=true)) (h:A L=true/\B L=true):Near ps n m L where
 a1:=U.snd L (by omega) h.1
 a2:=W.snd L (by omega) h.2
 max z z1 z2:=Int.le_of_not_gt fun hg=>by
  have h1:=z1.le o (Int.natCast_nonneg _)
  exact nb z.toNat (by omega) (by omega) ⟨U.all o hn z1 (by omega),W.all o hm z2 (by omega)⟩
end
inductive NbI (ps:List (List Int)) (n m:Nat) (t w:Addr) (σ₀:ae) (i:Nat) (m':aq) (σ':ae):Prop
 |mk (ads:List Addr) (A B:Nat->Bool) (F:Flg ads t ps.length A B σ') (U:Up ps n i A) (W:Up ps m i B) (nb:∀k:Nat,k < ps.length->ps.length<=k+i->¬(A k=true/\B k=true)) (g:Grow σ₀ σ') (mk:m' "_law_known"=some (.ref t)) (mw:m' "_law_older"=some (.ref w)):NbI ps n m t w σ₀ i m' σ'
inductive NbJ (ps:List (List Int)) (A B:Nat->Bool) (L:Nat) (S:List Int) (t w:Addr) (σ₀:ae) (m':aq) (σ':ae):Prop
 |mk (ads:List Addr) (F:Flg ads t ps.length (upF A L S) (upF B L S) σ') (g:Grow σ₀ σ') (mk:m' "_law_known"=some (.ref t)) (mw:m' "_law_older"=some (.ref w)) (ml:m' "_law_later"=some (.int L)):NbJ ps A B L S t w σ₀ m' σ'
section
variable {ns:List Int} {m:aq} {σ:ae} {t dp dl:Addr} {ads:List Addr} {p L:Nat} {xs ys:List V}
theorem mG {Q:V->ae->Prop} {j:Int} {a c:Bool} (mk:m "_law_known"=some (.ref t)) (mp:m "_law_parent"=some (.int p)) (ml:m "_law_later"=some (.int L)) (xt:σ t=some (.list (ads.map V.ref))) (hp:ads[p]?=some dp) (hl:ads[L]?=some dl) (xp:σ dp=some (.list xs)) (xl:σ dl=some (.list ys))
  (j0:0<=j) (ha:xs[j.toNat]?=some (.bool a)) (hc:ys[j.toNat]?=some (.bool c)) (q:Q (.bool (a||c)) σ) :
  xh (bQ (bl ns) (bQ (bl ns) (aO "_law_known") (aO "_law_parent")) (br (.int j))) (bQ (bl ns) (bQ (bl ns) (aO "_law_known") (aO "_law_later")) (br (.int j))) m σ Q:=by
 refine atK.of mk (atK.of mp (ch xt (Int.natCast_nonneg _) (by rw[Int.toNat_natCast,List.getElem?_map,hp];rfl) (ch xp j0 ha ?_)))
 cases a with
 |true=>exact q
 |false=>exact atK.of mk (atK.of ml (ch xt (Int.natCast_nonneg _) (by rw[Int.toNat_natCast,List.getElem?_map,hl];rfl) (ch xl j0 hc q)))
theorem qh {R:Fl->aq->ae->Prop} {a b c d:Bool} (mk:m "_law_known"=some (.ref t)) (mp:m "_law_parent"=some (.int p)) (ml:m "_law_later"=some (.int L)) (xt:σ t=some (.list (ads.map V.ref))) (hp:ads[p]?=some dp) (hl:ads[L]?=some dl) (xp:σ dp=some (.list [.bool a,.bool b])) (xl:σ dl=some (.list [.bool c,.bool d]))
  (q:∀z,σ z=Option.none->R .next m (am (am σ z (.list [.bool (a||c),.bool (b||d)])) t (.list ((ads.map V.ref).set p (.ref z))))) :
  cC dg (qo (bV (xh (bQ (bl ns) (bQ (bl ns) (aO "_law_known") (aO "_law_parent")) (br (.int 0))) (bQ (bl ns) (bQ (bl ns) (aO "_law_known") (aO "_law_later")) (br (.int 0))))
   (bV (xh (bQ (bl ns) (bQ (bl ns) (aO "_law_known") (aO "_law_parent")) (br (.int 1))) (bQ (bl ns) (bQ (bl ns) (aO "_law_known") (aO "_law_later")) (br (.int 1)))) iF))) (aO "_law_known") (aO "_law_parent") m σ R:=by
 refine mG (j:=0) mk mp ml xt hp hl xp xl (by decide) rfl rfl ?_
 refine mG (j:=1) mk mp ml xt hp hl xp xl (by decide) rfl rfl ?_
 refine⟨l2,fun z hz=>atK.of mk (atK.of mp (v4 (aW hz xt) (Int.natCast_nonneg _) ?_ ?_))⟩
 ·rw[Int.toNat_natCast,List.length_map];exact (List.getElem?_eq_some_iff.mp hp).1
 ·rw[Int.toNat_natCast];exact q z hz
end
section
variable {C:Cx} (G:Gl C Hd.vw) (hz:C.held=none)
include G hz
theorem dO:FnAt C 0 "_law_nearest_by" (sp__law_nearest_by C.ns):=by
 apply FnAt.mk (xs:=["_law_older","_law_one","_law_other"]) G 21 33<;>(try trivial)
 case hspec=>
 rintro _ σ Q ⟨w,ps,n,m,rfl,xw,o,n0,hn,m0,hm,q⟩
 refine⟨rfl,?_⟩
 obtain ⟨n,rfl⟩:=Int.eq_ofNat_of_zero_le n0
 obtain ⟨m,rfl⟩:=Int.eq_ofNat_of_zero_le m0
 have hn:=Int.ofNat_lt.mp hn
 have hm:=Int.ofNat_lt.mp hm
 have ml:(aJ ps).length=ps.length:=List.length_map _
 have few:=o.few
 have rg:(0:Int)<=((aJ ps).length:Int)/\((aJ ps).length:Int) < 2 ^ 62:=⟨Int.natCast_nonneg _,Int.lt_of_le_of_lt (Int.ofNat_le.mpr (ml▸few)) (by decide)⟩
 refine (gO xw (rc rg ?_))
 rw[Int.toNat_natCast,ml]
 refine ij (aF 0 ps.length) (fun ys σ'=>Grow σ σ'/\∃ads:List Addr,ys=ads.map V.ref/\∀(k:Nat) d,ads[k]?=some d->σ' d=some (.list [.bool (decide ((0:Int)+(k:Int)=n)),.bool (decide ((0:Int)+(k:Int)=m))])) (fun _ _ _=>trivial) (by rw[aG];exact Nat.le_trans few (by decide)) ?_ ?_ _ [] _ rfl (Nat.zero_le _) ⟨Grow.refl,[],rfl,fun k d e=>(by cases e)⟩
 ·rintro acc v σ' Q' hv ⟨g,ads,rfl,ha⟩ nx
  obtain ⟨hi,rfl⟩:=aV hv
  rw[List.length_map] at hi ⊢
  refine⟨_,rfl,?_⟩
  refine ((aZ rfl (((aZ rfl ⟨l2,fun d hd=>?_⟩)))))
  refine nx _ _ ⟨g.upd hd,ads++[d],by rw[List.map_append];rfl,fun k d' e=>?_⟩
  rcases cb e with e | ⟨rfl,rfl⟩
  ·exact aW hd (ha k d' e)
  ·exact af _ _ _
 rintro _ σ₁ ⟨g1,ads,rfl,ha⟩ hl t ht
 rw[List.length_map,aG] at hl
 have gt:=g1.upd (o:=.list (ads.map V.ref)) ht
 have ht0:=g1.none ht
 have F0:Flg ads t ps.length (fun k=>decide ((0:Int)+(k:Int)=n)) (fun k=>decide ((0:Int)+(k:Int)=m)) (am σ₁ t (.list (ads.map V.ref))):=⟨af _ _ _,hl,fun k d e=>aW ht (ha k d e)⟩
 generalize am σ₁ t (.list (ads.map V.ref))=σ₂ at gt F0 ⊢
 clear ha g1 ht
 have u0:∀n:Nat,Up ps n 0 (fun k=>decide ((0:Int)+(k:Int)=n)):=fun n=>⟨fun k _ h=>by rw[<-of_decide_eq_true h,Int.zero_add];exact .self _,decide_eq_true (Int.zero_add _),fun k h1 h2=>absurd h1 (Nat.not_lt.mpr h2)⟩
 refine (gO (gt _ _ xw) (rc rg ?_))
 rw[Int.toNat_natCast,ml]
 refine aC (fun i m' σ'=>NbI ps n m t w σ i m' σ') (fun u _ σ'=>∃M:Nat,u=.int M/\Near ps n m M/\M < ps.length/\Grow σ σ') (fun _ _ _ _=>trivial) _ ?_ ?_ ?_ _ _ ⟨ads,_,_,F0,u0 n,u0 m,fun k h1 h2=>absurd h1 (Nat.not_lt.mpr h2),gt,rfl,rfl⟩
 ·rintro i v m' σ' Q' hv ⟨ads,A,B,F,U,W,nb,g,mk,mw⟩ n1 n2 n3
  obtain ⟨hi,rfl⟩:=aV hv
  refine⟨_,rfl,?_⟩
  refine atK.of ((aj (by decide)).trans mw) (gO (g _ _ xw) (oQ (oQ ?_)))
  obtain ⟨L,hL⟩:∃L:Nat,L+i+1=ps.length:=⟨ps.length-i-1,by omega⟩
  have eL:((aJ ps).length:Int)-1-(0+(i:Int))=(L:Int):=by rw[ml];omega
  have hLl:L < ps.length:=by omega
  obtain ⟨dl,hdl⟩:∃d,ads[L]?=some d:=⟨_,List.getElem?_eq_getElem (by rw[F.len];exact hLl)⟩
  rw[eL]
  refine tp ?_
  have mk':put (put m' "_law_step" (.int (0+(i:Int)))) "_law_later" (.int (L:Int)) "_law_known"=some (.ref t):=(aj (by decide)).trans ((aj (by decide)).trans mk)
  have mw':put (put m' "_law_step" (.int (0+(i:Int)))) "_law_later" (.int (L:Int)) "_law_older"=some (.ref w):=(aj (by decide)).trans ((aj (by decide)).trans mw)
  have ml':put (put m' "_law_step" (.int (0+(i:Int)))) "_law_later" (.int (L:Int)) "_law_later"=some (.int L):=rfl
  generalize put (put m' "_law_step" (.int (0+(i:Int)))) "_law_later" (.int (L:Int))=m₁ at mk' mw' ml' ⊢
  refine atK.of mk' (atK.of ml' (ch F.x (Int.natCast_nonneg _) (by rw[Int.toNat_natCast,List.getElem?_map,hdl];rfl) ⟨l2,fun z hz=>xe (aW hz (F.at_ L dl hdl)) (af _ _ _) ?_⟩))
  have gz:Grow σ' (am σ' z (.list [.bool true,.bool true])):=Grow.refl.upd hz
  generalize am σ' z (.list [.bool true,.bool true])=σ₃ at gz ⊢
  cases hAB:A L&&B L with
  |true=>
   refine atK.of ml' (n3 _ _ _ ⟨L,rfl,ry o U W hn hm hL nb ?_,hLl,g.trans gz⟩)
   rwa [Bool.and_eq_true] at hAB
  |false=>
   have hno:¬(A L=true/\B L=true):=fun h=>by rw[h.1,h.2] at hAB;cases hAB
   obtain ⟨l,hl⟩:∃l,ps[L]?=some l:=⟨_,List.getElem?_eq_getElem hLl⟩
   have hlo:=o.lt _ _ hl
   refine atK.of mw' (atK.of ml' (fh (gz _ _ (g _ _ xw)) (Int.natCast_nonneg _) (by rw[Int.toNat_natCast];exact hl) ?_))
   have e0:∀A:Nat->Bool,A=upF A L []:=fun A=>funext fun k=>(dE (fun h=>by cases h)).symm
   refine aC (fun j m' σ'=>NbJ ps A B L (l.take j) t w σ m' σ') (fun _ _ _=>False) (fun _ _ _ _=>trivial) _ ?_ ?_ (fun _ _ _ h=>h.elim) _ _ ⟨ads,⟨gz _ _ F.x,F.len,fun k d e=>by rw[List.take_zero,<-e0,<-e0];exact gz _ _ (F.at_ k d e)⟩,g.trans gz,mk',mw',ml'⟩
   ·rintro j v m₂ σ₄ Q'' hv ⟨ads,F,g,mk,mw,ml⟩ k1 k2 k3
    obtain ⟨p,hp,rfl⟩:=lq hv
    have hp2:=hlo p (List.mem_of_getElem? hp)
    obtain ⟨p,rfl⟩:=Int.eq_ofNat_of_zero_le hp2.1
    have hpL:p < L:=Int.ofNat_lt.mp hp2.2
    have hpN:=Nat.lt_trans hpL hLl
    obtain ⟨dp,hdp⟩:∃d,ads[p]?=some d:=⟨_,List.getElem?_eq_getElem (by rw[F.len];exact hpN)⟩
    obtain ⟨dl,hdl⟩:∃d,ads[L]?=some d:=⟨_,List.getElem?_eq_getElem (by rw[F.len];exact hLl)⟩
    refine⟨_,rfl,?_⟩
    refine qh ((aj (by decide)).trans mk) rfl ((aj (by decide)).trans ml) F.x hdp hdl (F.at_ _ _ hdp) (F.at_ _ _ hdl) fun z hz=>?_
    refine k1 _ _ ⟨ads.set p z,?_,(g.upd hz).over ht0,(aj (by decide)).trans mk,(aj (by decide)).trans mw,(aj (by decide)).trans ml⟩
    rw[List.take_add_one,hp]
    exact F.put hpN hz fun h=>absurd (hlo _ (List.mem_of_mem_take h)).2 (Int.lt_irrefl _)
   ·rintro m₂ σ₄ ⟨ads,F,g,mk,mw,ml⟩
    rw[List.length_map,List.take_length] at F
    exact n1 _ _ ⟨ads,_,_,F,U.next o hL hl,W.next o hL hl,rz o hL hl nb hno,g,mk,mw⟩
 ·rintro m' σ' ⟨ads,A,B,F,U,W,nb,g,mk,mw⟩
  rw[aG] at U W nb
  exact absurd ⟨U.all o hn (tA o n hn) (by omega),W.all o hm (tA o m hm) (by omega)⟩ (nb 0 o.pos (by omega))
 ·rintro u m' σ' ⟨M,rfl,nr,hM,g⟩
  exact q M _ g nr (Int.natCast_nonneg _) (Int.ofNat_lt.mpr hM)
end
theorem ux {f:Fi} {d:Dd} {c:String} (h:km f d=.error c):c="NoPath"\/c="NoFile"\/c="InTheWay":=by
 by_cases hab:d.x=AB
 ·rw[lB hab] at h;cases h;exact .inl rfl
 cases d with
 |put x y=>
  have hab:x≠AB:=hab
  by_cases hf:free f x
  ·rw[fo hab hf] at h;cases h
  ·rw[fm hab hf] at h;cases h;exact .inr (.inr rfl)
 |cut x=>
  have hab:x≠AB:=hab
  by_cases hf:f x=Option.none
  ·rw[lA hab hf] at h;cases h;exact .inr (.inl rfl)
  ·rw[iS hab hf] at h;cases h
theorem jZ {c:String}:∀{dl:List Dd} {f:Fi},aU f dl=.error c->c="NoPath"\/c="NoFile"\/c="InTheWay"
 |[],_,h=>(by cases h)
 |d::r,f,h=>by
  cases e:km f d with
  |ok g=>rw[gC e] at h;exact jZ h
  |error c'=>rw[hW e] at h;cases h;exact ux e
theorem rA (x:Str) (b:Bool):MulOk x (if b=true then 1 else 0):=by
 cases b with
 |false=>exact⟨by decide,fun h=>absurd (by decide) h,fun h=>absurd (by decide) h⟩
 |true=>exact⟨by decide,fun _ h=>absurd h (by simp),fun _ h=>absurd h (by simp)⟩
abbrev oP (x:Str) (b:Bool):Str:=Txt.mul x (if b=true then 1 else 0)
abbrev yF (x:Str) (e:Addr) (A:V) (b:Bool):ET:=bQ pq (br (.str x)) (bv lZ (bV (bv (gV e A b) (bV (aO "e") (bV (br A) iF))) iF))
theorem uk {x:Str} {e:Addr} {A:V} {b:Bool} {m:aq} {σ:ae} {Q:V->ae->Prop} (hm:m "e"=some (.ref e)) (q:Q (.str (oP x b)) σ):yF x e A b m σ Q:=atK.of hm ⟨rfl,.inr (.inl ⟨rA x b,q⟩)⟩
theorem gT {x y z r:Str} {e:Addr} {A1 A2 A3:V} {b1 b2 b3:Bool} {m:aq} {σ:ae} {R:Fl->aq->ae->Prop} (hm:m "e"=some (.ref e)) (l1:(oP x b1).length+(oP y b2).length<=16777216) (l2:(oP x b1++oP y b2).length+(oP z b3).length<=16777216) (he:oP x b1++oP y b2++oP z b3=r) (q:∀m',R (.ret (.str r)) m' σ) :
  gM (kQ "_law_word" (bQ fZ (yF x e A1 b1) (yF y e A2 b2))) (gM (tw (bQ fZ (aO "_law_word") (yF z e A3 b3))) iy) m σ R:=by
 subst he
 refine uk (A:=A1) hm ?_
 refine uk (A:=A2) hm ⟨l1,?_⟩
 have hm':put m "_law_word" (.str (oP x b1++oP y b2)) "e"=some (.ref e):=(aj (by decide)).trans hm
 refine uk (A:=A3) hm' ⟨l2,?_⟩
 exact q _
section
variable {C:Cx} (G:Gl C Hd.vw) (hz:C.held=none) {ad:String->Addr} (Tb:XTab C oo nJ ad) (g1:GInt C "MOST_PARTS" 8) (g2:GInt C "LONGEST_PART" 12) (g3:GStr C "SIGNS" dA) {bk N:Addr} {mN:Str->Option Value} (B:Bk C bk N mN) {P:Params} (KX:(Hd.kk P).In C.hB) (hN:N=Hd.bkN)
include G hz Tb g1 g2 g3 B KX hN
theorem jT:FnAtX C 5 "_law_grew" (sp__law_grew C.ns):=by
 have h0:=m_grow G hz Tb g1 g2 g3 B KX hN
 apply FnAtX.mk (xs:=["_law_book","_law_parent","_law_deeds"]) G 22 34<;>(try trivial)
 case hspec=>
 rintro _ σ Q X ⟨K,K',b,t,mo,fs,ps,n,f,L,dl,rfl,B,h0,hf,xL,ok,hK',hK,hfs,qE,qO⟩
 refine⟨rfl,?_⟩
 refine⟨B.isI rfl,(⟨K,K',b,t,mo,fs,ps,n,f,L,dl,rfl,B,h0,hf,xL,ok,hK',hK,hfs,fun c hc σ₁ g1=>?_,fun g hg σ₁ k1 B1=>?_⟩)⟩
 ·rcases jZ hc with rfl | rfl | rfl
  ·exact⟨by decide,fun e he=>gT rfl (by decide +kernel) (by decide +kernel) (by decide +kernel) fun m'=>qE _ hc _ g1⟩
  ·exact⟨by decide,fun e he=>gT rfl (by decide +kernel) (by decide +kernel) (by decide +kernel) fun m'=>qE _ hc _ g1⟩
  ·exact⟨by decide,fun e he=>gT rfl (by decide +kernel) (by decide +kernel) (by decide +kernel) fun m'=>qE _ hc _ g1⟩
 ·exact qO g hg σ₁ k1 B1
theorem gQ:FnAtX C 7 "_law_joined" (sp__law_joined C.ns):=by
 have h0:=m_merge G hz Tb g1 g2 g3 B KX hN
 apply FnAtX.mk (xs:=["_law_book","_law_one","_law_other","_law_picks"]) G 23 35<;>(try trivial)
 case hspec=>
 rintro _ σ Q X ⟨K,b,t,mo,fs,ps,n,m,p,L,pk,M,f,g,h,rfl,B,n0,m0,dp,hL,nr,M0,hf,hg,hh,hfs,qS,qN,qC,qO⟩
 refine⟨rfl,?_⟩
 refine⟨B.isI rfl,((⟨K,b,t,mo,fs,ps,n,m,p,L,pk,M,f,g,h,rfl,B,n0,m0,dp,hL,nr,M0,hf,hg,hh,hfs,fun h1 σ₁ g1=>?_,fun h1 h2 σ₁ g1=>?_,fun h1 h2 h3 σ₁ g1=>?_,fun h1 h2 h3 σ₁ k1 B1 s1=>?_⟩))⟩
 ·exact⟨by decide,fun e he=>gT rfl (by decide +kernel) (by decide +kernel) (by decide +kernel) fun m'=>qS h1 _ g1⟩
 ·exact⟨by decide,fun e he=>gT rfl (by decide +kernel) (by decide +kernel) (by decide +kernel) fun m'=>qN h1 h2 _ g1⟩
 ·exact⟨by decide,fun e he=>gT rfl (by decide +kernel) (by decide +kernel) (by decide +kernel) fun m'=>qC h1 h2 h3 _ g1⟩
 ·exact qO h1 h2 h3 σ₁ k1 B1 s1
end
theorem Lst.out {S:List Addr} {σ:ae} {z:Addr} {o:AObj} (h:Lst S σ) (e:σ z=some o) (ho:∀xs,o≠.list xs):z∉S:=fun hz=>by
 refine x1_1 (h z hz) fun xs h=>?_
 rw[e] at h;cases h
 exact ho _ rfl
section
variable {K K':List Str} {S:List Addr} {σ σ':ae} {b t mo u w:Addr} {fs:List Fi} {ps:List (List Int)}
theorem BookAt.keep (B:BookAt K b t mo fs ps σ) (k:Keep S σ σ') (hl:Lst S σ) (ht:t∉S) (hm:mo∉S):BookAt K b t mo fs ps σ':=
 ⟨let ⟨dx,h1,h2⟩:=B.obj;⟨dx,k _ _ h1 (hl.out h1 fun _ e=>by cases e),k _ _ h2 (hl.out h2 fun _ e=>by cases e)⟩,B.tr.keep k hl ht,k _ _ B.md hm,B.ne,B.len,B.ord,B.un⟩
theorem Side.lst (s:Side K b t mo u w fs ps σ):Lst [t,mo,u,w] σ:=fun x hx=>by
 rcases List.mem_cons.mp hx with rfl | hx
 ·exact let ⟨_,h,_,_⟩:=s.bk.tr;⟨_,h⟩
 rcases List.mem_cons.mp hx with rfl | hx
 ·exact⟨_,s.bk.md⟩
 rcases List.mem_cons.mp hx with rfl | hx
 ·exact let ⟨_,h,_,_⟩:=s.tr;⟨_,h⟩
 cases List.mem_singleton.mp hx
 exact⟨_,s.md⟩
theorem Side.keep (s:Side K b t mo u w fs ps σ) (k:Keep S σ σ') (hl:Lst S σ) (hd:∀x∈[t,mo,u,w],x∉S):Side K b t mo u w fs ps σ':=
 ⟨s.bk.keep k hl (hd t (.head _)) (hd mo (.tail _ (.head _))),s.tr.keep k hl (hd u (.tail _ (.tail _ (.head _)))),k _ _ s.md (hd w (.tail _ (.tail _ (.tail _ (.head _))))),s.nd⟩
theorem Side.grow (s:Side K b t mo u w fs ps σ) (g:Grow σ σ'):Side K b t mo u w fs ps σ':=⟨s.bk.grow g,s.tr.grow g,g _ _ s.md,s.nd⟩
theorem pM (h:[t,mo,u,w].Nodup):t∉[u,w]:=fun hx=>(List.nodup_cons.mp h).1 (.tail _ hx)
theorem pN (h:[t,mo,u,w].Nodup):mo∉[u,w]:=(List.nodup_cons.mp (List.nodup_cons.mp h).2).1
theorem jC (h:[t,mo,u,w].Nodup):u≠w:=fun e=>(List.nodup_cons.mp (List.nodup_cons.mp (List.nodup_cons.mp h).2).2).1 (e▸.head _)
theorem t6 (h:[t,mo,u,w].Nodup):u∉[t,mo]/\w∉[t,mo]:=
 ⟨fun hx=>(List.mem_cons.mp hx).elim (fun e=>pM h (e▸.head _)) fun hx=>pN h (List.mem_singleton.mp hx▸.head _),fun hx=>(List.mem_cons.mp hx).elim (fun e=>pM h (e▸.tail _ (.head _))) fun hx=>pN h (List.mem_singleton.mp hx▸.tail _ (.head _))⟩
theorem jr {g:Fi} {l:List Int} {r:Addr} {ads:List Addr} (B:BookAt K b t mo (fs++[g]) (ps++[l]) σ) (hu:σ u=some (.list (ads.map V.ref))) (al:ads.length=fs.length) (aa:∀(i:Nat) d f,ads[i]?=some d->fs[i]?=some f->DAt K (fV f) d σ) (hw:σ w=some (.list (aJ ps))) (dr:DAt K (fV g) r σ) (nd:[t,mo,u,w].Nodup) :
  Side K b t mo u w (fs++[g]) (ps++[l]) (am (am σ u (.list (ads.map V.ref++[.ref r]))) w (.list (aJ ps++[.tup (l.map V.int)]))):=by
 have k:Keep [u,w] σ (am (am σ u (.list (ads.map V.ref++[.ref r]))) w (.list (aJ ps++[.tup (l.map V.int)]))):=fun z o e hz=>(bh hz (.tail _ (.head _))).trans ((bh hz (.head _)).trans e)
 have hl:Lst [u,w] σ:=fun x hx=>by
  rcases List.mem_cons.mp hx with rfl | hx
  ·exact⟨_,hu⟩
  ·cases List.mem_singleton.mp hx;exact⟨_,hw⟩
 refine⟨B.keep k hl (pM nd) (pN nd),Trs.snoc ((an (jC nd)).trans (af _ _ _)) al (fun i d f e1 e2=>(aa i d f e1 e2).keep k hl) (dr.keep k hl),?_,nd⟩
 rw[af];unfold aJ;rw[List.map_append];rfl
end
theorem kP {K K':List Str} {F:Str->Option V} {k1 k2:List (Str×V)} {σ:ae} {p q:Addr} {e1 e2:Nat} (i:Is K F k1) (j:Is K' F k2) (hF:∀x v,F x=some v->vy v) (hp:σ p=some (.dict k1 e1)) (hq:σ q=some (.dict k2 e2)):SameD σ (.ref p) (.ref q):=by
 have get:∀z∈k1,F z.1=some z.2:=fun z hz=>by
  refine x1_2 (dD (List.mem_map.mpr ⟨z,hz,rfl⟩)) fun v h1 h2=>?_
  rw[<-i.eq,h1,dL i.nd h2 hz]
 have l1:=List.Nodup.length_le_of_subset i.nd (l₂:=ag k2) fun x hx=>j.mem.mpr (i.mem.mp hx)
 have l2:=List.Nodup.length_le_of_subset j.nd (l₂:=ag k1) fun x hx=>i.mem.mpr (j.mem.mp hx)
 rw[a9,a9] at l1 l2
 refine⟨p,q,k1,k2,e1,e2,hp,hq,Nat.le_antisymm l1 l2,fun z hz=>?_,fun z hz=>hF _ _ (get z hz)⟩
 have h1:=get z hz
 obtain ⟨v,h2,h3⟩:=dD (show z.1∈k2.map (·.1) from j.mem.mpr (by rw[h1];exact fun e=>by cases e))
 rw[j.eq,h1] at h2
 cases h2
 exact h3
theorem w7 {f:Fi} (x:Str) (v:V) (h:fV f x=some v):vy v:=by
 obtain ⟨y,_,rfl⟩:=Option.map_eq_some_iff.mp h
 exact .inr ⟨y,rfl⟩
theorem sE {p:Pi} (x:Str) (v:V) (h:pV p x=some v):vy v:=by
 obtain ⟨o,_,rfl⟩:=Option.map_eq_some_iff.mp h
 cases o with
 |none=>exact .inl rfl
 |some y=>exact .inr ⟨y,rfl⟩
theorem mO (d:Dd):∃l:List Str,d.v=.tup (l.map .str):=by
 cases d with
 |put x y=>exact⟨[_,x,y],rfl⟩
 |cut x=>exact⟨[_,x],rfl⟩
section
variable {σ:ae} {Q:V->ae->Prop} {a b:V}
theorem t5 (h:SameD σ a b) (q:Q (.bool false) σ):po a b σ Q:=.inr ⟨.inl h,q⟩
theorem t4 (h:SameP σ a b) (q:Q (.bool false) σ):po a b σ Q:=.inr ⟨.inr h,q⟩
theorem ug {x:Str} (q:Q (.bool true) σ):bu [.str x,.ty "str"] σ Q:=⟨true,by simp[on],q⟩
theorem uj {a:Addr} {kvs:List (Str×V)} {ep:Nat} (h:σ a=some (.dict kvs ep)) (q:Q (.bool false) σ):bu [.ref a,.ty "str"] σ Q:=⟨false,by simp[on,h],q⟩
theorem wK {a:Addr} {xs:List V} (h:σ a=some (.list xs)) (q:bq xs σ Q):cM [.ref a] σ Q:=by rw[lh h];exact q
theorem w8 {x:Str} (q:Q (.bool true) σ):ni (.str x) (.str x) σ Q:=aZ (congrArg some (decide_eq_true rfl)) q
theorem w9 {x y:Int} (h:x=y) (q:Q (.bool true) σ):ni (.int x) (.int y) σ Q:=aZ (congrArg some (decide_eq_true h)) q
end
theorem More.refl {n:Nat} {K:List Str}:More n K K:=⟨fun _ h=>h,Nat.le_add_right _ _⟩
theorem oq {T:ST} {U:bX} {m:aq} {σ:ae} {R:Fl->aq->ae->Prop} {X:XT} (P:aq->ae->Prop) (h1:∀R':Fl->aq->ae->Prop,(∀m' σ',P m' σ'->R' .next m' σ')->T m σ R') (h2:∀m' σ',P m' σ'->U m' σ' R X):mU (xP T) U m σ R X:=h1 _ h2
theorem iB {α:Type} {l:List α} {c:Int} (hl:0 < l.length):0<=c % (l.length:Int)/\∃x,l[(c % (l.length:Int)).toNat]?=some x:=by
 have h0:(0:Int) < (l.length:Int):=Int.ofNat_lt.mpr hl
 have h1:=Int.emod_nonneg c (Int.ne_of_gt h0)
 exact⟨h1,_,List.getElem?_eq_getElem ((Int.toNat_lt h1).mpr (Int.emod_lt_of_pos c h0))⟩
inductive DueG (K:List Str) (f:Fi) (dl:List Dd) (σ:ae):V->Prop
 |err (c:String) (h:aU f dl=.error c):DueG K f dl σ (.str (Str.ofString c))
 |ok (g:Fi) (r:Addr) (h:aU f dl=.ok g) (d:DAt (ct K dl) (fV g) r σ):DueG K f dl σ (.ref r)
section
variable {C:Cx} (G:Gl C Hd.vw) (hz:C.held=none) {ad:String->Addr} (Tb:XTab C oo nJ ad) (g1:GInt C "MOST_PARTS" 8) (g2:GInt C "LONGEST_PART" 12) (g3:GStr C "SIGNS" dA) {bk N:Addr} {mN:Str->Option Value} (B:Bk C bk N mN) {P:Params} (KX:(Hd.kk P).In C.hB) (hN:N=Hd.bkN)
include G hz Tb g1 g2 g3 B KX hN
theorem dN:FnAt C 2 "_law_reads" (sp__law_reads C.ns):=by
 have h0:=m_tree G hz B KX hN
 have h1:=m_parents G hz B KX hN
 apply FnAt.mk (xs:=["_law_book","_law_trees","_law_older","_law_number"]) G 27 39<;>(try trivial)
 case hspec=>
 rintro _ σ Q ⟨K,b,t,mo,u,w,fs,ps,n,rfl,S,n0,n1,q⟩
 refine⟨rfl,?_⟩
 have hlt:=(Int.toNat_lt n0).mpr n1
 obtain ⟨f,hf⟩:∃f,fs[n.toNat]?=some f:=⟨_,List.getElem?_eq_getElem hlt⟩
 obtain ⟨l,hl⟩:∃l,ps[n.toNat]?=some l:=⟨_,List.getElem?_eq_getElem (by rw[S.bk.len];exact hlt)⟩
 refine⟨S.bk.isI rfl,⟨K,b,t,mo,fs,ps,n,f,rfl,S.bk,n0,hf,fun r σ₁ g1 hr dr=>?_⟩⟩
 obtain ⟨kr,er,xr,ir⟩:=dr
 have S1:=S.grow g1
 refine (sM xr ?_)
 refine (((bz S1.tr n0 hf fun d dd=>?_)))
 obtain ⟨kd,ed,xd,jd⟩:=dd
 refine t5 (kP ir jd w7 xr xd) ?_
 refine⟨S1.bk.isI rfl,⟨K,b,t,mo,fs,ps,n,l,rfl,S1.bk,n0,hl,?_⟩⟩
 refine ((fh S1.md n0 hl (t4 (.tup _ fun x hx=>?_) ?_)))
 ·obtain ⟨i,_,rfl⟩:=List.mem_map.mp hx
  exact congrArg some (decide_eq_true rfl)
 refine (cY xr (ir.few S.bk.un) fun ep=>?_)
 exact q _ (g1.over hr)
theorem iR:FnAtX C 6 "_law_grows" (sp__law_grows C.ns):=by
 have h0:=fb G hz Tb g1 g2 g3
 have h1:=cG G hz Tb g1 g2 g3
 have h2:=jT G hz Tb g1 g2 g3 B KX hN
 apply FnAtX.mk (xs:=["_law_book","_law_trees","_law_older","_law_cell","_law_shift"]) G 24 36<;>(try trivial)
 case hspec=>
 rintro _ σ Q X ⟨K,b,t,mo,u,w,fs,ps,c,s,rfl,S,hK,hfs,q⟩
 refine⟨rfl,?_⟩
 have hpos:0 < fs.length:=by rw[<-S.bk.len];exact S.bk.ord.pos
 refine (.inl ⟨.inr (by unfold bS;decide),by decide,(bb S.tr ⟨Int.ofNat_lt.mpr hpos,?_⟩)⟩)
 obtain ⟨n0,f,hf⟩:=iB (c:=c*69621 % 104729) hpos
 generalize c*69621 % 104729 % (fs.length:Int)=n at n0 hf ⊢
 refine (((bz S.tr n0 hf fun d dd=>⟨K,c,d,s,f,rfl,dd,hK,S.bk.un.len,fun dl hdl ok L σ₁ g1 hL xL=>?_⟩)))
 have hKd:K.length+dl.length<=1000:=Nat.le_trans (Nat.add_le_add hK hdl) (by decide)
 refine fe ?_
 refine oq (fun m' σ'=>Grow σ₁ σ'/\∃due,m'=put (put (put (bD ["_law_book","_law_trees","_law_older","_law_cell","_law_shift"] [.ref b,.ref u,.ref w,.int c,.int s] cZ) "_law_parent" (.int n)) "_law_deeds" (.ref L)) "_law_due" due/\DueG K f dl σ' due) (fun R nx=>?_) ?_
 ·refine ((bz (S.tr.grow g1) n0 hf fun d2 dd2=>⟨K,d2,L,f,dl,rfl,dd2,xL,hKd,S.bk.un.len,ok,fun c hc σ₂ g2=>?_,fun g hg r σ₂ g2 hr dr=>?_⟩))
  ·exact nx _ _ ⟨g2,_,rfl,.err c hc⟩
  ·exact nx _ _ ⟨g2,_,rfl,.ok g r hg dr⟩
 rintro _ σ₂ ⟨g2,due,rfl,hdue⟩
 refine (wK (g2 _ _ xL) fun k hk=>?_)
 have gk:Grow σ₂ (am σ₂ k (.list (dl.map Dd.v))):=Grow.refl.upd hk
 have xk:=af σ₂ k (.list (dl.map Dd.v))
 generalize am σ₂ k (.list (dl.map Dd.v))=σ₃ at gk xk ⊢
 have g3:=(g1.trans g2).trans gk
 have xL3:=gk _ _ (g2 _ _ xL)
 have hlen:(ct K dl).length<=1000:=by unfold ct;rw[List.length_append,List.length_reverse,List.length_map,Nat.add_comm];exact hKd
 refine ((⟨K,_,b,t,mo,fs,ps,n,f,L,dl,rfl,S.bk.grow g3,n0,hf,xL3,ok,rfl,hlen,hfs,fun c hc σ₄ g4=>?_,fun g hg σ₄ k4 B4=>?_⟩))
 ·cases hdue with
  |ok g r h _=>exact nomatch hc.symm.trans h
  |err c' h=>
   cases Except.error.inj (hc.symm.trans h)
   refine ((t4 (.list L k _ (g4 _ _ xL3) (g4 _ _ xk) fun x hx=>?_) ?_))
   ·obtain ⟨d,_,rfl⟩:=List.mem_map.mp hx
    exact mO d
   refine .inl (⟨⟨_,g4 _ _ xL3⟩,⟨_,g4 _ _ xL3,?_⟩⟩)
   refine (ug ?_)
   refine ((w8 ?_))
   have gf:Grow σ (am σ₄ L (.list [])):=(g3.trans g4).over hL
   exact q K fs ps _ gf.keep (S.grow gf) .refl (Nat.le_succ _)
 ·cases hdue with
  |err c h=>exact nomatch hg.symm.trans h
  |ok g' r h dr=>
   cases Except.ok.inj (hg.symm.trans h)
   obtain ⟨ads,hu,al,aa⟩:=S.tr
   have nd:=S.nd
   have ne:=t6 nd
   have lst:Lst [t,mo] σ:=fun x hx=>S.lst x ((List.mem_cons.mp hx).elim (fun e=>e▸.head _) fun hx=>.tail _ (List.mem_singleton.mp hx▸.head _))
   have lst3:Lst [t,mo] σ₃:=fun x hx=>let ⟨xs,e⟩:=lst x hx;⟨xs,g3 _ _ e⟩
   have fresh:∀z,σ z=Option.none->z∉[t,mo]:=fun z hz hx=>by
    refine x1_1 (lst z hx) fun xs e=>?_
    rw[hz] at e;cases e
   have kL:=k4 _ _ xL3 (fresh L hL)
   have kk:=k4 _ _ xk (fresh k ((g1.trans g2).none hk))
   refine ((t4 (.list L k _ kL kk fun x hx=>?_) ?_))
   ·obtain ⟨d,_,rfl⟩:=List.mem_map.mp hx
    exact mO d
   refine .inl (⟨⟨_,kL⟩,⟨_,kL,?_⟩⟩)
   have k5:Keep [t,mo] σ (am σ₄ L (.list [])):=fun z o e hz=>(an (by rintro rfl;rw[hL] at e;cases e)).trans (k4 _ _ (g3 _ _ e) hz)
   have lL:Lst [L] σ₄:=fun x hx=>(List.mem_singleton.mp hx)▸⟨_,kL⟩
   have kl:Keep [L] σ₄ (am σ₄ L (.list [])):=fun z o e hz=>(bh hz (.head _)).trans e
   have nL:∀x∈[t,mo],x∉[L]:=fun x hx hx'=>fresh L hL (List.mem_singleton.mp hx'▸hx)
   have B5:=B4.keep kl lL (nL t (.head _)) (nL mo (.tail _ (.head _)))
   have dr5:=((dr.grow gk).keep k4 lst3).keep kl lL
   generalize am σ₄ L (.list [])=σ₅ at k5 kl B5 dr5 ⊢
   obtain ⟨kr,er,xr,ir⟩:=dr5
   refine (uj xr ?_)
   have xu:=k5 _ _ hu ne.1
   have xw:=k5 _ _ S.md ne.2
   refine⟨⟨_,xu⟩,(aD xu (by rw[List.length_map,al];exact Nat.lt_trans hfs (by decide)) ?_)⟩
   refine⟨⟨_,(an (jC nd).symm).trans xw⟩,⟨l1,aD ((an (jC nd).symm).trans xw) (by unfold aJ;rw[List.length_map,S.bk.len];exact Nat.lt_trans hfs (by decide)) ?_⟩⟩
   have sub:∀x∈K,x∈ct K dl:=ja
   have SS:=jr (l:=[n]) B5 xu al (fun i d f e1 e2=>((aa i d f e1 e2).keep k5 lst).more sub) xw ⟨kr,er,xr,ir⟩ nd
   refine ((bb SS.tr (w9 ?_ ?_)))
   ·rw[List.length_append];exact ge.symm
   refine q _ _ _ _ (fun z o e hz=>?_) SS ⟨sub,?_⟩ (by rw[List.length_append];exact Nat.le_refl _)
   ·exact (bh hz (.tail _ (.tail _ (.tail _ (.head _))))).trans ((bh hz (.tail _ (.tail _ (.head _)))).trans (k5 _ _ e fun hx=>hz ((List.mem_cons.mp hx).elim (fun e=>e▸.head _) fun hx=>.tail _ (List.mem_singleton.mp hx▸.head _))))
   ·rw[List.length_append,List.length_reverse,List.length_map,Nat.add_comm];exact Nat.add_le_add_left hdl _
end
theorem Trs.sep {K:List Str} {t p:Addr} {fs:List Fi} {σ:ae} (T:Trs K t fs σ) (hp:σ p=Option.none):Sep t σ p:=fun xs e hm=>by
 obtain ⟨ads,h,l,a⟩:=T
 rw[h] at e;cases e
 refine x1_2 (List.mem_map.mp hm) fun d hd e=>?_
 cases e
 obtain ⟨i,hi,rfl⟩:=List.mem_iff_getElem.mp hd
 obtain ⟨_,_,e,_⟩:=a i _ _ (List.getElem?_eq_getElem hi) (List.getElem?_eq_getElem (l▸hi))
 rw[hp] at e;cases e
theorem BookAt.updD {K:List Str} {b t mo p:Addr} {fs:List Fi} {ps:List (List Int)} {σ:ae} {o:AObj} {kvs:List (Str×V)} {ep:Nat} (B:BookAt K b t mo fs ps σ) (hs:Sep t σ p) (hp:σ p=some (.dict kvs ep)):BookAt K b t mo fs ps (am σ p o):=by
 have ne:∀{z o'},σ z=some o'->(∀k e,o'≠.dict k e)->am σ p o z=some o':=fun {z o'} e ho=>(an (by rintro rfl;rw[hp] at e;cases e;exact ho _ _ rfl)).trans e
 obtain ⟨ads,h,l,a⟩:=B.tr
 refine⟨let ⟨dx,h1,h2⟩:=B.obj;⟨dx,ne h1 fun _ _ e=>(by cases e),ne h2 fun _ _ e=>(by cases e)⟩,⟨ads,ne h fun _ _ e=>(by cases e),l,fun i d f e1 e2=>?_⟩,ne B.md fun _ _ e=>(by cases e),B.ne,B.len,B.ord,B.un⟩
 obtain ⟨k,e',x,ii⟩:=a i d f e1 e2
 exact⟨k,e',(an (by rintro rfl;exact hs _ h (List.mem_map.mpr ⟨_,List.mem_of_getElem? e1,rfl⟩))).trans x,ii⟩
theorem a7 {T U:bX} {m:aq} {σ:ae} {R:Fl->aq->ae->Prop} {X:XT} (P:aq->aq->ae->Prop) (h1:∀R':Fl->aq->ae->Prop,(∀m' σ',P m m' σ'->R' .next m' σ')->T m σ R' X) (h2:∀m' σ',P m m' σ'->U m' σ' R X):mU T U m σ R X:=h1 _ h2
theorem i7 {x:String} {v:V} {U:bX} {m:aq} {σ:ae} {R:Fl->aq->ae->Prop} {X:XT} (h:U (put m x v) σ R X):mU (xP (kQ x (br v))) U m σ R X:=h
theorem wj (y:Str) (c:Int):∃o:Option Str,[V.none,V.str y][(c % 2).toNat]?=some (cW o):=by
 rcases Int.emod_two_eq c with h | h<;>rw[h]
 ·exact⟨Option.none,rfl⟩
 ·exact⟨some y,rfl⟩
theorem tG (y:Str) (c:Int):∃o:Option Str,[V.str y,V.none][(c % 2).toNat]?=some (cW o):=by
 rcases Int.emod_two_eq c with h | h<;>rw[h]
 ·exact⟨some y,rfl⟩
 ·exact⟨Option.none,rfl⟩
theorem DAt.pick {K L:List Str} {pk:Pi} {p:Addr} {σ:ae} {kvs:List (Str×V)} {x:Str} {o:Option Str} {ep:Nat} (i:Is K (pV pk) kvs) (k:∀z∈K,z∈L) (hx:x∈L):DAt L (pV (bF pk x (some o))) p (am σ p (.dict (aR kvs x (cW o)) ep)):=
 ⟨_,ep,af _ _ _,((i.more k).store hx).congr fun z=>(congrFun (fK cW pk x (some o)) z).symm⟩
inductive PkI (K xs:List Str) (p l:Addr) (σ₀:ae) (m₀ m:aq) (σ':ae):Prop
 |mk (pk:Pi) (dp:DAt K (pV pk) p σ') (hpk:∀x,pk x≠Option.none->x∈xs) (xl:σ' l=some (.list (xs.map V.str))) (gr:Grow σ₀ σ') (me:∀z,z∉["_law_k"]->m z=m₀ z):PkI K xs p l σ₀ m₀ m σ'
inductive JsI (K:List Str) (f g h:Fi) (p:Addr) (σ₀:ae) (m₀ m:aq) (σ':ae):Prop
 |mk (pk:Pi) (d l:Addr) (xs:List Str) (dp:DAt K (pV pk) p σ') (hpk:∀x,pk x≠Option.none->c9 f g h eW x) (dd:DAt K (fV (cu f g h pk)) d σ') (xl:σ' l=some (.list (xs.map V.str))) (mem:∀x,x∈xs↔c9 f g h pk x) (dn:d≠p) (gr:Grow σ₀ σ') (md:m "_law_made"=some (.ref d)) (ml:m "_law_places"=some (.ref l)) (me:∀z,z∉["_law_made","_law_places","_law_k"]->m z=m₀ z):JsI K f g h p σ₀ m₀ m σ'
inductive WdJ (K:List Str) (f g h:Fi) (pk:Pi) (d:Addr) (σ:ae):String->Prop
 |made (h1:∀x,pk x≠Option.none->c9 f g h eW x) (h2:∀x,¬c9 f g h pk x) (dd:DAt K (fV (cu f g h pk)) d σ):WdJ K f g h pk d σ "made"
 |cl (h1:∀x,pk x≠Option.none->c9 f g h eW x) (h2:∃x,c9 f g h pk x):WdJ K f g h pk d σ "Clashed"
 |no (h1:∃x,pk x≠Option.none/\¬c9 f g h eW x):WdJ K f g h pk d σ "NoClash"
inductive JdI (K:List Str) (f g h:Fi) (p:Addr) (σ₀:ae) (m₀ m:aq) (σ':ae):Prop
 |mk (L:List Str) (pk:Pi) (wd:String) (d:Addr) (dp:DAt L (pV pk) p σ') (hL:L.length<=1001) (W:WdJ K f g h pk d σ' wd) (dn:d≠p) (gr:Grow σ₀ σ') (mw:m "_law_due"=some (.str (Str.ofString wd))) (md:m "_law_made"=some (.ref d)) (me:∀z,z∉["_law_made","_law_places","_law_k","_law_due"]->m z=m₀ z):JdI K f g h p σ₀ m₀ m σ'
theorem WdJ.grow {K:List Str} {f g h:Fi} {pk:Pi} {d:Addr} {σ σ':ae} {wd:String} (W:WdJ K f g h pk d σ wd) (k:Grow σ σ'):WdJ K f g h pk d σ' wd:=by
 cases W with
 |made h1 h2 dd=>exact .made h1 h2 (dd.grow k)
 |cl h1 h2=>exact .cl h1 h2
 |no h1=>exact .no h1
inductive FdJ (K:List Str) (b t mo p d:Addr) (fs:List Fi) (ps:List (List Int)) (n m:Int) (σ σ':ae) (v:V) (wd:String):Prop
 |err (hv:v=.str (Str.ofString wd)) (hne:decide (Str.ofString wd=Str.ofString "made")=false) (g:Grow σ σ'):FdJ K b t mo p d fs ps n m σ σ' v wd
 |ok (F:Fi) (hv:v=.int fs.length) (hw:wd="made") (dd:DAt K (fV F) d σ) (k:Keep [t,mo] σ σ') (B:BookAt K b t mo (fs++[F]) (ps++[[min n m,max n m]]) σ') (s:∀z,σ z≠Option.none->Sep t σ z->Sep t σ' z):FdJ K b t mo p d fs ps n m σ σ' v wd
theorem ov {xs:List Str}:(0:Int) < ((xs.map V.str).length:Int)↔xs≠[]:=by
 rw[List.length_map]
 exact Int.ofNat_lt.trans List.length_pos_iff
section
variable {C:Cx} (G:Gl C Hd.vw) (hz:C.held=none) {ad:String->Addr} (Tb:XTab C oo nJ ad) (g1:GInt C "MOST_PARTS" 8) (g2:GInt C "LONGEST_PART" 12) (g3:GStr C "SIGNS" dA) {bk N:Addr} {mN:Str->Option Value} (B:Bk C bk N mN) {P:Params} (KX:(Hd.kk P).In C.hB) (hN:N=Hd.bkN)
include G hz Tb g1 g2 g3 B KX hN
theorem iQ:FnAtX C 8 "_law_joins" (sp__law_joins C.ns):=by
 have h0:=dO G hz
 have h1:=eI G hz
 have h2:=bP G hz
 have h3:=gQ G hz Tb g1 g2 g3 B KX hN
 apply FnAtX.mk (xs:=["_law_book","_law_trees","_law_older","_law_cell","_law_shift"]) G 25 37<;>(try trivial)
 case hspec=>
 rintro _ σ Q X ⟨K,b,t,mo,u,w,fs,ps,c,s,rfl,S,hK,hfs,q⟩
 refine⟨rfl,?_⟩
 have hpos:0 < fs.length:=by rw[<-S.bk.len];exact S.bk.ord.pos
 have un:=S.bk.un
 refine (.inl ⟨.inr (by unfold bS;decide),by decide,(bb S.tr ⟨Int.ofNat_lt.mpr hpos,?_⟩)⟩)
 obtain ⟨n0,g,hg⟩:=iB (c:=c*69621 % 104729) hpos
 generalize c*69621 % 104729 % (fs.length:Int)=n at n0 hg ⊢
 refine (.inl ⟨.inr (by unfold bS;decide),by decide,(bb S.tr ⟨Int.ofNat_lt.mpr hpos,?_⟩)⟩)
 obtain ⟨m0,h,hh⟩:=iB (c:=c*16807 % 99991) hpos
 generalize c*16807 % 99991 % (fs.length:Int)=m at m0 hh ⊢
 refine (((⟨w,ps,n,m,rfl,S.md,S.bk.ord,n0,by rw[S.bk.len];exact toNat_lt n0 hg,m0,by rw[S.bk.len];exact toNat_lt m0 hh,fun M σ₁ g1 nr M0 M1=>?_⟩)))
 obtain ⟨f,hf⟩:∃f,fs[M.toNat]?=some f:=⟨_,List.getElem?_eq_getElem ((Int.toNat_lt M0).mpr (by rw[<-S.bk.len];exact M1))⟩
 have T1:=S.tr.grow g1
 refine bz T1 M0 hf fun da Da=>?_
 intro p ep hp
 have hp0:=g1.none hp
 have g2:Grow σ₁ (am σ₁ p (.dict [] ep)):=Grow.refl.upd hp
 have dp:DAt K (pV eW) p (am σ₁ p (.dict [] ep)):=⟨[],ep,af _ _ _,Is.nil.congr fun _=>rfl⟩
 generalize am σ₁ p (.dict [] ep)=σ₂ at g2 dp ⊢
 refine (((bz (T1.grow g2) n0 hg fun db Db=>((bz (T1.grow g2) m0 hh fun dc Dc=>⟨K,da,db,dc,f,g,h,p,eW,rfl,⟨Da.grow g2,Db,Dc,un⟩,dp,fun x hx=>absurd rfl hx,fun d l xs σ₃ g3 hd dd xl mem len=>⟨_,rfl,?_⟩⟩)))))
 have d3:D3 K da db dc f g h σ₂:=⟨Da.grow g2,Db,Dc,un⟩
 have npd:∀{z:Addr} {σ':ae} {F:Str->Option V},DAt K F p σ'->σ' z=Option.none->z≠p:=fun {z σ' F} h hz=>by rintro rfl;obtain ⟨_,_,e,_⟩:=h;rw[hz] at e;cases e
 refine wN ?_
 refine a7 (fun m₀ m' σ'=>JsI K f g h p σ₁ m₀ m' σ') (fun R nx=>?_) ?_
 ·refine⟨⟨by decide,by decide⟩,by decide,?_⟩
  by_cases h3:0 < c / 7 % 3
  ·refine aI (decide_eq_true h3) ?_
   refine (gO xl (rc ⟨Int.natCast_nonneg _,Int.lt_of_le_of_lt (Int.ofNat_le.mpr (by rw[List.length_map];exact len)) (by decide)⟩ ?_))
   rw[Int.toNat_natCast,List.length_map]
   refine aC (fun i m' σ'=>PkI K xs p l σ₁ _ m' σ') (fun _ _ _=>False) (fun _ _ _ _=>trivial) _ ?_ ?_ (fun _ _ _ h=>h.elim) _ _ ⟨eW,dp.grow g3,fun x hx=>absurd rfl hx,xl,g2.trans g3,fun _ _=>rfl⟩
   ·rintro i v m' σ' Q' hv ⟨pk,⟨kp,e',xp,ip⟩,hpk,xl,gr,me⟩ k1 k2 k3
    obtain ⟨hi,rfl⟩:=aV hv
    have hx:xs[i]?=some xs[i]:=List.getElem?_eq_getElem hi
    generalize xs[i]=x at hx
    have hxm:=List.mem_of_getElem? hx
    have hxK:x∈K:=iX d3 ((mem x).mp hxm)
    have lp:l≠p:=by rintro rfl;rw[xl] at xp;cases xp
    have mc:m' "_law_cell"=some (.int c):=me "_law_cell" (by decide)
    refine⟨_,rfl,?_⟩
    refine atK.of ((aj (by decide)).trans mc) ⟨⟨by decide,by decide⟩,atK.of (me "_law_shift" (by decide)) ⟨_,_,rfl,fun y σ₄ g4=>⟨l2,fun z hz=>?_⟩⟩⟩
    have g5:=g4.upd (o:=.list [V.none,V.str y]) hz
    have xz:=af σ₄ z (.list [V.none,V.str y])
    generalize am σ₄ z (.list [V.none,V.str y])=σ₅ at g5 xz ⊢
    refine x1_1 (wj y (c / 21+(0+(i:Int)))) fun o ho=>?_
    refine atK.of ((aj (by decide)).trans mc) ⟨⟨by decide,by decide⟩,⟨by decide,ch xz (Int.emod_nonneg _ (by decide)) ho ?_⟩⟩
    refine atK.of (me "_law_picks" (by decide)) (atK.of (me "_law_places" (by decide)) ((ch (g5 _ _ xl) (Int.natCast_nonneg (0+i) |> fun h=>by rw[Int.zero_add];exact Int.natCast_nonneg _) (by rw[Int.zero_add,Int.toNat_natCast,List.getElem?_map,hx];rfl) (cY (g5 _ _ xp) (ip.few un) fun ep2=>?_))))
    refine k1 _ _ ⟨bF pk x (some o),DAt.pick ip (fun _ h=>h) hxK,fun z hz=>?_,(an lp).trans (g5 _ _ xl),(gr.trans g5).over hp,fun z hz=>(ak hz (.head _)).trans (me z hz)⟩
    unfold bF at hz
    by_cases e:z=x
    ·exact e▸hxm
    ·rw[if_neg e] at hz;exact hpk z hz
   ·rintro m' σ' ⟨pk,dp,hpk,_,gr,me⟩
    have mu:m' "_law_trees"=some (.ref u):=me "_law_trees" (by decide)
    refine atK.of (me "_law_elder" (by decide)) (atK.of mu (atK.of (me "_law_one" (by decide)) (bz (T1.grow gr) n0 hg fun db' Db'=>atK.of mu (atK.of (me "_law_other" (by decide)) (bz (T1.grow gr) m0 hh fun dc' Dc'=>atK.of (me "_law_picks" (by decide)) ⟨K,da,db',dc',f,g,h,p,pk,rfl,⟨Da.grow gr,Db',Dc',un⟩,dp,fun x hx=>(mem x).mp (hpk x hx),fun d' l' xs' σ₄ g4 hd' dd' xl' mem' len'=>⟨_,rfl,?_⟩⟩)))))
    refine nx _ _ ⟨pk,d',l',xs',dp.grow g4,fun x hx=>(mem x).mp (hpk x hx),dd',xl',mem',npd dp hd',gr.trans g4,rfl,rfl,fun z hz=>?_⟩
    exact (ak hz (.tail _ (.head _))).trans ((ak hz (.head _)).trans (me z fun h=>hz (.tail _ (.tail _ h))))
  ·refine aE (decide_eq_false h3) ?_
   exact nx _ _ ⟨eW,d,l,xs,dp.grow g3,fun x hx=>absurd rfl hx,dd,xl,mem,npd dp hd,g2.trans g3,rfl,rfl,fun _ _=>rfl⟩
 clear dd xl mem hd g3 dp len
 rintro m₁ σ₃ ⟨pk,d,l,xs,dp,hpk,dd,xl,mem,dn,gr,md,ml,me⟩
 refine i7 ?_
 refine a7 (fun m₀ m' σ'=>σ'=σ₃/\(∀z,z∉["_law_due"]->m' z=m₀ z)/\∃wd,m' "_law_due"=some (.str (Str.ofString wd))/\WdJ K f g h pk d σ' wd) (fun R nx=>?_) ?_
 ·refine atK.of ((aj (by decide)).trans ml) (gO xl ?_)
  by_cases hx:xs=[]
  ·refine aE (decide_eq_false fun hh=>ov.mp hh hx) ?_
   exact nx _ _ ⟨rfl,fun _ _=>rfl,"made",rfl,.made hpk (fun x hb=>by have:=(mem x).mpr hb;rw[hx] at this;cases this) dd⟩
  ·refine aI (decide_eq_true (ov.mpr hx)) ?_
   refine x1_1 (List.exists_mem_of_ne_nil _ hx) fun x hx=>?_
   exact nx _ _ ⟨rfl,fun z hz=>ak hz (.head _),"Clashed",rfl,.cl hpk ⟨x,(mem x).mp hx⟩⟩
 rintro m₂ s' ⟨rfl,me2,wd,mw,W⟩
 replace me:∀z,z∉["_law_made","_law_places","_law_k","_law_due"]->m₂ z=_:=fun z hz=>(me2 z fun h=>hz (.tail _ (.tail _ (.tail _ h)))).trans ((ak hz (by decide)).trans (me z fun h=>hz (List.mem_append_left ["_law_due"] h)))
 replace md:m₂ "_law_made"=some (.ref d):=(me2 "_law_made" (by decide)).trans ((aj (by decide)).trans md)
 clear me2 ml
 refine a7 (fun m₀ m' σ'=>JdI K f g h p σ₁ m₀ m' σ') (fun R nx=>?_) ?_
 ·have mc:m₂ "_law_cell"=some (.int c):=me "_law_cell" (by decide)
  refine atK.of mc ⟨⟨by decide,by decide⟩,by decide,aZ rfl ?_⟩
  by_cases h8:c / 700 % 8=1
  ·refine aI (decide_eq_true h8) ?_
   obtain ⟨kp,e',xp,ip⟩:=dp
   refine⟨l2,fun z hz=>?_⟩
   have g5:=gr.upd (o:=.list [V.str (Str.ofString "x"),V.none]) hz
   have xp5:=aW (o:=.list [V.str (Str.ofString "x"),V.none]) hz xp
   have xz:=af s' z (.list [V.str (Str.ofString "x"),V.none])
   generalize am s' z (.list [V.str (Str.ofString "x"),V.none])=σ₅ at g5 xz xp5 ⊢
   refine x1_1 (tG (Str.ofString "x") (c / 5600)) fun o ho=>?_
   refine atK.of mc ⟨⟨by decide,by decide⟩,by decide,ch xz (Int.emod_nonneg _ (by decide)) ho ?_⟩
   refine atK.of (me "_law_picks" (by decide)) (cY xp5 (ip.few un) fun ep2=>?_)
   refine nx _ _ ⟨oi::K,bF pk oi (some o),"NoClash",d,DAt.pick ip (fun _ h=>.tail _ h) (.head _),Nat.succ_le_succ un.few,.no ⟨oi,fun e=>?_,fun hb=>un.here (iX d3 hb)⟩,dn,g5.over hp,rfl,(aj (by decide)).trans md,fun z hz=>ak hz (by decide)⟩
   unfold bF at e
   rw[if_pos rfl] at e;cases e
  ·refine aE (decide_eq_false h8) ?_
   exact nx _ _ ⟨K,pk,wd,d,dp,Nat.le_succ_of_le un.few,W,dn,gr,mw,md,fun _ _=>rfl⟩
 clear dp hpk dd xl mem dn gr md mw W d3
 rintro m₃ σ₅ ⟨L,pk,wd,d,⟨kp,ep,xp,ip⟩,hL,W,dn,gr,mw,md,me3⟩
 replace me:∀z,z∉["_law_made","_law_places","_law_k","_law_due"]->m₃ z=_:=fun z hz=>(me3 z hz).trans (me z hz)
 clear me3
 refine a7 (fun m₀ m' σ'=>σ'=σ₅/\(∀z,z∉["_law_due"]->m' z=m₀ z)/\∃w2,m' "_law_due"=some (.str (Str.ofString w2))/\w2=if n=m then "SameVersion" else wd) (fun R nx=>?_) ?_
 ·refine atK.of (me "_law_one" (by decide)) (atK.of (me "_law_other" (by decide)) (aZ rfl ?_))
  by_cases he:n=m
  ·refine aI (decide_eq_true he) ?_
   exact nx _ _ ⟨rfl,fun z hz=>ak hz (.head _),_,rfl,(if_pos he).symm⟩
  ·refine aE (decide_eq_false he) ?_
   exact nx _ _ ⟨rfl,fun _ _=>rfl,wd,mw,(if_neg he).symm⟩
 rintro m₄ s' ⟨rfl,me4,w2,mw2,hw2⟩
 replace me:∀z,z∉["_law_made","_law_places","_law_k","_law_due"]->m₄ z=_:=fun z hz=>(me4 z fun h=>hz (.tail _ (.tail _ (.tail _ h)))).trans (me z hz)
 replace md:m₄ "_law_made"=some (.ref d):=(me4 "_law_made" (by decide)).trans md
 clear me4 mw
 have mp:m₄ "_law_picks"=some (.ref p):=me "_law_picks" (by decide)
 have mu:m₄ "_law_trees"=some (.ref u):=me "_law_trees" (by decide)
 have mwo:m₄ "_law_older"=some (.ref w):=me "_law_older" (by decide)
 have mn:m₄ "_law_one"=some (.int n):=me "_law_one" (by decide)
 have mm:m₄ "_law_other"=some (.int m):=me "_law_other" (by decide)
 have mb:m₄ "_law_book"=some (.ref b):=me "_law_book" (by decide)
 clear me
 refine atK.of mp (.inl (bR xp fun k ek hk=>?_))
 have gk:Grow s' (am s' k (.dict kp ek)):=Grow.refl.upd hk
 have xk:=af s' k (.dict kp ek)
 generalize am s' k (.dict kp ek)=σ₆ at gk xk ⊢
 have g6:=(g1.trans gr).trans gk
 have W6:=W.grow gk
 have xp6:=gk _ _ xp
 refine fe ?_
 refine a7 (fun m₀ m' σ'=>∃v,m'=put m₀ "_law_found" v/\FdJ K b t mo p d fs ps n m σ₆ σ' v w2) (fun R nx=>?_) ?_
 ·refine atK.of mb (atK.of mn (atK.of mm (atK.of mp ⟨K,b,t,mo,fs,ps,n,m,p,L,pk,M,f,g,h,rfl,S.bk.grow g6,n0,m0,⟨kp,ep,xp6,ip⟩,hL,nr,M0,hf,hg,hh,hfs,fun he σ₇ g7=>?_,fun he hx σ₇ g7=>?_,fun he hx hy σ₇ g7=>?_,fun he hx hy σ₇ k7 B7 s7=>?_⟩)))
  ·rw[if_pos he] at hw2;subst hw2
   exact nx _ _ ⟨_,rfl,.err rfl (by decide +kernel) g7⟩
  ·rw[if_neg he] at hw2;subst hw2
   cases W with
   |made h1 h2 dd=>refine x1_2 hx fun x a1 a2=>?_;clear hx;exact absurd (h1 x a1) a2
   |cl h1 h2=>refine x1_2 hx fun x a1 a2=>?_;clear hx;exact absurd (h1 x a1) a2
   |no h1=>exact nx _ _ ⟨_,rfl,.err rfl (by decide +kernel) g7⟩
  ·rw[if_neg he] at hw2;subst hw2
   cases W with
   |made h1 h2 dd=>refine x1_1 hy fun x a1=>?_;clear hy;exact absurd a1 (h2 x)
   |cl h1 h2=>exact nx _ _ ⟨_,rfl,.err rfl (by decide +kernel) g7⟩
   |no h1=>refine x1_2 h1 fun x a1 a2=>?_;clear h1;exact absurd (hx x a1) a2
  ·rw[if_neg he] at hw2;subst hw2
   cases W with
   |made h1 h2 dd=>exact nx _ _ ⟨_,rfl,.ok _ rfl rfl (dd.grow gk) k7 B7 s7⟩
   |cl h1 h2=>refine x1_1 h2 fun x a1=>?_;clear h2;exact absurd a1 (hy x)
   |no h1=>refine x1_2 h1 fun x a1 a2=>?_;clear h1;exact absurd (hx x a1) a2
 rintro _ σ₇ ⟨v,rfl,fd⟩
 clear W W6 hw2
 cases fd with
 |err hv hne g7=>
  subst hv
  have xp7:=g7 _ _ xp6
  refine atK.of ((aj (by decide)).trans mp) ((t5 (kP ip ip sE xp7 (g7 _ _ xk)) ?_))
  refine .inr (atK.of ((aj (by decide)).trans mp) ⟨⟨_,_,xp7⟩,⟨kp,ep,xp7,fun ep'=>?_⟩⟩)
  refine atK.of mw2 (pL rfl (aI (congrArg not hne) ?_))
  refine atK.of mw2 (w8 ?_)
  have gf:Grow σ (am σ₇ p (.dict [] ep')):=(g6.trans g7).over hp0
  exact q K fs ps _ gf.keep (S.grow gf) .refl (Nat.le_succ _)
 |ok F hv hw dd k7 B7 s7=>
  subst hv
  subst hw
  obtain ⟨ads,hu,al,aa⟩:=S.tr
  have nd:=S.nd
  have ne:=t6 nd
  have lst:Lst [t,mo] σ:=fun x hx=>S.lst x ((List.mem_cons.mp hx).elim (fun e=>e▸.head _) fun hx=>.tail _ (List.mem_singleton.mp hx▸.head _))
  have lst6:Lst [t,mo] σ₆:=fun x hx=>let ⟨xs,e⟩:=lst x hx;⟨xs,g6 _ _ e⟩
  have xp7:=k7 _ _ xp6 (lst6.out xp6 fun _ e=>by cases e)
  have xk7:=k7 _ _ xk (lst6.out xk fun _ e=>by cases e)
  refine atK.of ((aj (by decide)).trans mp) ((t5 (kP ip ip sE xp7 xk7) ?_))
  refine .inr (atK.of ((aj (by decide)).trans mp) ⟨⟨_,_,xp7⟩,⟨kp,ep,xp7,fun ep'=>?_⟩⟩)
  refine atK.of mw2 (pL rfl (aE (congrArg not (decide_eq_true rfl)) ?_))
  obtain ⟨adt,ht,_,_⟩:=S.bk.tr
  have sp:Sep t σ₇ p:=s7 p (by rw[xp6];exact fun e=>by cases e) ((S.bk.tr.sep hp0).grow g6 ht)
  have B8:BookAt K b t mo (fs++[F]) (ps++[[min n m,max n m]]) (am σ₇ p (.dict [] ep')):=B7.updD sp xp7
  have k8:Keep [t,mo] σ (am σ₇ p (.dict [] ep')):=fun z o e hz=>(an (by rintro rfl;rw[hp0] at e;cases e)).trans (k7 _ _ (g6 _ _ e) hz)
  have d8:DAt K (fV F) d (am σ₇ p (.dict [] ep')):=by
   obtain ⟨kd,ed,xd,jd⟩:=dd.keep k7 lst6
   exact⟨kd,ed,(an dn).trans xd,jd⟩
  generalize am σ₇ p (.dict [] ep')=σ₈ at B8 k8 d8 ⊢
  have xu:=k8 _ _ hu ne.1
  have xw:=k8 _ _ S.md ne.2
  refine atK.of ((aj (by decide)).trans mu) ⟨⟨_,xu⟩,atK.of ((aj (by decide)).trans md) (aD xu (by rw[List.length_map,al];exact Nat.lt_trans hfs (by decide)) ?_)⟩
  have xw':=(an (σ:=σ₈) (o:=.list (ads.map V.ref++[.ref d])) (jC nd).symm).trans xw
  refine atK.of ((aj (by decide)).trans mwo) ⟨⟨_,xw'⟩,atK.of mn (atK.of mm (atK.of mn (atK.of mm (.inl ⟨l2,aD xw' (by unfold aJ;rw[List.length_map,S.bk.len];exact Nat.lt_trans hfs (by decide)) ?_⟩))))⟩
  have SS:=jr (l:=[min n m,max n m]) B8 xu al (fun i d f e1 e2=>(aa i d f e1 e2).keep k8 lst) xw d8 nd
  refine atK.of mu (bb SS.tr (w9 ?_ ?_))
  ·rw[List.length_append];exact ge.symm
  refine q _ _ _ _ (fun z o e hz=>?_) SS .refl (by rw[List.length_append];exact Nat.le_refl _)
  exact (bh hz (.tail _ (.tail _ (.tail _ (.head _))))).trans ((bh hz (.tail _ (.tail _ (.head _)))).trans (k8 _ _ e fun hx=>hz ((List.mem_cons.mp hx).elim (fun e=>e▸.head _) fun hx=>.tail _ (List.mem_singleton.mp hx▸.head _))))
end
noncomputable def dh:Fi->List (Str×Str)->Fi
 |f,[]=>f
 |f,q::r=>dh (bF f q.1 (some q.2)) r
noncomputable def cz (l:List (Str×Str)):List (Str×V):=l.map fun q=>(q.1,V.str q.2)
theorem eg (l:List (Str×Str)):ag (cz l)=l.map (·.1):=by unfold ag cz;rw[List.map_map];rfl
theorem fL:∀(l:List (Str×Str)) (f:Fi) (x:Str),x∉l.map (·.1)->dh f l x=f x
 |[],_,_,_=>rfl
 |q::r,f,x,h=>by
  have h1:x≠q.1:=fun e=>h (e▸.head _)
  exact (fL r _ x fun hx=>h (.tail _ hx)).trans (if_neg h1)
theorem fM:∀(l:List (Str×Str)) (f:Fi) (x:Str),(l.map (·.1)).Nodup->f x=Option.none->aT (cz l) x=fV (dh f l) x
 |[],f,x,_,h=>by
  show Option.none=Option.map V.str (f x)
  rw[h];rfl
 |q::r,f,x,nd,h=>by
  obtain ⟨n1,n2⟩:=List.nodup_cons.mp nd
  show Option.map _ (List.find? _ ((q.1,V.str q.2)::cz r))=Option.map V.str (dh (bF f q.1 (some q.2)) r x)
  by_cases e:q.1=x
  ·rw[List.find?_cons,decide_eq_true e,fL r _ x (e▸n1),bF,if_pos e.symm];rfl
  ·rw[List.find?_cons,decide_eq_false e]
   exact fM r _ x n2 ((if_neg (Ne.symm e)).trans h)
theorem gB {Z:List Str} (hZ:∀x∈Z,∀y∈Z,¬Ab x y) (hab:AB∉Z):∀(l:List (Str×Str)) (f:Fi),(∀x,f x≠Option.none->x∈Z)->(∀q∈l,q.1∈Z)->aU f (l.map fun q=>Dd.put q.1 q.2)=.ok (dh f l)
 |[],_,_,_=>rfl
 |q::r,f,hf,hl=>by
  have hq:=hl q (.head _)
  have e:=fo (y:=q.2) (fun e=>hab (e▸hq)) fun y hy=>⟨hZ _ hq _ (hf y hy),hZ _ (hf y hy) _ hq⟩
  refine (gC e).trans (gB hZ hab r _ (fun x hx=>?_) fun q h=>hl q (.tail _ h))
  unfold bF at hx
  by_cases hh:x=q.1
  ·exact hh▸hq
  ·rw[if_neg hh] at hx;exact hf x hx
noncomputable def b5:List Str:=(List.range 60).map kE
theorem cJ {x:Str} (h:x∈b5):∃n,n < 60/\x=kE n:=by
 obtain ⟨n,h1,rfl⟩:=List.mem_map.mp h
 exact⟨n,List.mem_range.mp h1,rfl⟩
theorem oO:∀x∈b5,∀y∈b5,¬Ab x y:=fun x hx y hy h=>by
 obtain ⟨i,hi,rfl⟩:=cJ hx
 obtain ⟨j,hj,rfl⟩:=cJ hy
 have a:=kC ⟨i,hi⟩
 have b:=kC ⟨j,hj⟩
 unfold Ab at h
 rw[a.2,b.2,eR (fun p hp=>?_) (fun p hp=>?_) (by simp) (by simp)] at h
 ·exact absurd (of_decide_eq_true h).1 (Nat.lt_irrefl 2)
 ·rcases List.mem_cons.mp hp with rfl | hp
  ·exact (okPart.of a.1).fr
  ·cases List.mem_singleton.mp hp;exact (okPart.of (by decide +kernel)).fr
 ·rcases List.mem_cons.mp hp with rfl | hp
  ·exact (okPart.of b.1).fr
  ·cases List.mem_singleton.mp hp;exact (okPart.of (by decide +kernel)).fr
theorem oN:b5.Nodup:=by decide +kernel
theorem tg:AB∉b5:=fun h=>by
 obtain ⟨n,h1,h2⟩:=cJ h
 exact (cx h1).ne h2.symm
theorem kD:Kp b5:=⟨by unfold b5;rw[List.length_map,List.length_range];decide,fun x hx=>by
 obtain ⟨n,h1,rfl⟩:=cJ hx
 exact Nat.le_trans (cx h1).len (by decide),fun h=>by
 obtain ⟨n,h1,h2⟩:=cJ h
 exact (cx h1).here h2.symm⟩
theorem gX {T:Nat->Str}:∀(ys:List V) (n:Nat),(∀(i:Nat) y,ys[i]?=some y->∃x,y=.tup [.str (T (n+i)),.str x])->∃l:List (Str×Str),ys=(cz l).map (fun q=>.tup [.str q.1,q.2])/\l.map (·.1)=(List.range ys.length).map fun i=>T (n+i)
 |[],_,_=>⟨[],rfl,rfl⟩
 |y::r,n,h=>by
  obtain ⟨x,rfl⟩:=h 0 y rfl
  obtain ⟨l,h1,h2⟩:=gX r (n+1) fun i z e=>by
   have:=h (i+1) z e
   rw[show n+(i+1)=n+1+i from by omega] at this
   exact this
  refine⟨(T n,x)::l,by rw[h1];rfl,?_⟩
  rw[List.map_cons,h2,List.length_cons,List.range_succ_eq_map,List.map_cons,List.map_map]
  refine congrArg (_::·) (List.map_congr_left fun i _=>?_)
  show T (n+1+i)=T (n+(i+1))
  rw[show n+(i+1)=n+1+i from by omega]
structure Rc where
 b:Addr
 t:Addr
 mo:Addr
 u:Addr
 w:Addr
noncomputable def Rc.l (r:Rc):List Addr:=[r.t,r.mo,r.u,r.w]
noncomputable def Rc.v (r:Rc):V:=.tup [.ref r.b,.ref r.u,.ref r.w]
inductive Sd (r:Rc) (n:Nat) (σ:ae):Prop
 |mk (K:List Str) (fs:List Fi) (ps:List (List Int)) (s:Side K r.b r.t r.mo r.u r.w fs ps σ) (hK:K.length<=60+9*n) (hf:fs.length<=92+n):Sd r n σ
structure Bo (r1 r2:Rc) (bo:Addr) (n:Nat) (σ:ae):Prop where
 s1:Sd r1 n σ
 s2:Sd r2 n σ
 x:σ bo=some (.list [r1.v,r2.v])
 d:∀x∈r1.l,x∉r2.l
 o1:bo∉r1.l
 o2:bo∉r2.l
theorem Sd.grow {r:Rc} {n:Nat} {σ σ':ae} (h:Sd r n σ) (g:Grow σ σ'):Sd r n σ':=let ⟨K,fs,ps,s,a,b⟩:=h;⟨K,fs,ps,s.grow g,a,b⟩
theorem Sd.more {r:Rc} {n:Nat} {σ:ae} (h:Sd r n σ):Sd r (n+1) σ:=let ⟨K,fs,ps,s,a,b⟩:=h;⟨K,fs,ps,s,Nat.le_trans a (Nat.add_le_add_left (Nat.mul_le_mul_left _ (Nat.le_succ _)) _),Nat.le_succ_of_le b⟩
theorem Sd.keep {r:Rc} {n:Nat} {S:List Addr} {σ σ':ae} (h:Sd r n σ) (k:Keep S σ σ') (hl:Lst S σ) (hd:∀x∈r.l,x∉S):Sd r n σ':=let ⟨K,fs,ps,s,a,b⟩:=h;⟨K,fs,ps,s.keep k hl hd,a,b⟩
theorem Sd.lst {r:Rc} {n:Nat} {σ:ae} (h:Sd r n σ):Lst r.l σ:=let ⟨_,_,_,s,_,_⟩:=h;s.lst
theorem Bo.grow {r1 r2:Rc} {bo:Addr} {n:Nat} {σ σ':ae} (h:Bo r1 r2 bo n σ) (g:Grow σ σ'):Bo r1 r2 bo n σ':=⟨h.s1.grow g,h.s2.grow g,g _ _ h.x,h.d,h.o1,h.o2⟩
theorem Bo.turn1 {r1 r2:Rc} {bo:Addr} {n:Nat} {σ σ':ae} (h:Bo r1 r2 bo n σ) (k:Keep r1.l σ σ') (s:Sd r1 (n+1) σ'):Bo r1 r2 bo (n+1) σ':=
 ⟨s,(h.s2.keep k h.s1.lst fun x hx hx'=>h.d x hx' hx).more,k _ _ h.x h.o1,h.d,h.o1,h.o2⟩
theorem Bo.turn2 {r1 r2:Rc} {bo:Addr} {n:Nat} {σ σ':ae} (h:Bo r1 r2 bo n σ) (k:Keep r2.l σ σ') (s:Sd r2 (n+1) σ'):Bo r1 r2 bo (n+1) σ':=
 ⟨(h.s1.keep k h.s2.lst h.d).more,s,k _ _ h.x h.o2,h.d,h.o1,h.o2⟩
theorem Bo.at {r1 r2:Rc} {bo:Addr} {n:Nat} {σ:ae} (h:Bo r1 r2 bo n σ) {i:Nat} {v:V} (e:[r1.v,r2.v][i]?=some v):∃r:Rc,v=r.v/\Sd r n σ:=by
 match i,e with
 |0,e=>cases e;exact⟨r1,rfl,h.s1⟩
 |1,e=>cases e;exact⟨r2,rfl,h.s2⟩
section
variable {ns:List Int} {σ:ae} {Q:V->ae->Prop} {r:Rc}
theorem yq (q:Q (.ref r.b) σ):bl ns r.v (.int 0) σ Q:=jK (i:=0) (Nat.lt_of_sub_eq_succ rfl) (by show 0 < 3;decide) rfl q
theorem wg (q:Q (.ref r.u) σ):bl ns r.v (.int 1) σ Q:=jK (i:=1) (Nat.lt_of_sub_eq_succ rfl) (by show 1 < 3;decide) rfl q
theorem zp (q:Q (.ref r.w) σ):bl ns r.v (.int 2) σ Q:=jK (i:=2) (Nat.lt_of_sub_eq_succ rfl) (by show 2 < 3;decide) rfl q
theorem pI {a dx:Addr} (ha:σ a=Option.none) (hd:σ dx=Option.none) (hne:dx≠a) (q:∀t mo σ',Grow σ σ'->BookAt [] a t mo [fun _=>Option.none] [[]] σ'->σ t=Option.none->σ mo=Option.none->Q .none σ'):sp___init__ ns [.ref a] (am (am σ dx (.ns [])) a (.inst dx)) Q:=by
 have xa:=af (am σ dx (.ns [])) a (.inst dx)
 have xd:am (am σ dx (.ns [])) a (.inst dx) dx=some (.ns []):=(an hne).trans (af _ _ _)
 have g:Grow σ (am (am σ dx (.ns [])) a (.inst dx)):=(Grow.refl.upd hd).upd ((an hne.symm).trans ha)
 refine⟨a,dx,rfl,xa,xd,fun t mo σ' k B ht hm=>?_⟩
 exact q t mo σ' (fun z o e=>k z o (g _ _ e) fun hz=>by cases List.mem_singleton.mp hz;rw[hd] at e;cases e) B (g.none ht) (g.none hm)
theorem jq {b t mo d u w:Addr} {ed:Nat} (B:BookAt [] b t mo [fun _=>Option.none] [[]] σ) (hd:σ d=Option.none) (hu:am σ d (.dict [] ed) u=Option.none) (hw:am (am σ d (.dict [] ed)) u (.list [.ref d]) w=Option.none) :
  Side [] b t mo u w [fun _=>Option.none] [[]] (am (am (am σ d (.dict [] ed)) u (.list [.ref d])) w (.list [.tup []]))/\Grow σ (am (am (am σ d (.dict [] ed)) u (.list [.ref d])) w (.list [.tup []]))/\σ u=Option.none/\σ w=Option.none:=by
 have g1:Grow σ (am σ d (.dict [] ed)):=Grow.refl.upd hd
 have g2:=g1.upd (o:=.list [.ref d]) hu
 have g3:=g2.upd (o:=.list [.tup []]) hw
 have du:d≠u:=by rintro rfl;rw[af] at hu;cases hu
 have uw:u≠w:=by rintro rfl;rw[af] at hw;cases hw
 have hu0:=g1.none hu
 have hw0:=g2.none hw
 have live:∀z,σ z≠Option.none->z≠u/\z≠w:=fun z hz=>⟨fun e=>hz (e▸hu0),fun e=>hz (e▸hw0)⟩
 obtain ⟨ads,ht,_,_⟩:=B.tr
 have lt:=live t (by rw[ht];exact fun e=>by cases e)
 have lm:=live mo (by rw[B.md];exact fun e=>by cases e)
 refine⟨⟨B.grow g3,Trs.one (aW hw (af _ _ _)) (aW hw ((an du).trans (af _ _ _))),af _ _ _,?_⟩,g3,hu0,hw0⟩
 simp[B.ne,lt,lm,uw]
end
section
variable {C:Cx} (G:Gl C Hd.vw) (hz:C.held=none) {ad:String->Addr} (Tb:XTab C oo nJ ad) (g1:GInt C "MOST_PARTS" 8) (g2:GInt C "LONGEST_PART" 12) (g3:GStr C "SIGNS" dA) {bk N:Addr} {mN:Str->Option Value} (B:Bk C bk N mN) {P:Params} (KX:(Hd.kk P).In C.hB) (hN:N=Hd.bkN)
include G hz Tb g1 g2 g3 B KX hN
theorem jS:FnAtX C 9 "_law_turn" (sp__law_turn C.ns):=by
 have h0:=iR G hz Tb g1 g2 g3 B KX hN
 have h1:=iQ G hz Tb g1 g2 g3 B KX hN
 have h2:=dN G hz Tb g1 g2 g3 B KX hN
 apply FnAtX.mk (xs:=["_law_book","_law_trees","_law_older","_law_cell","_law_shift"]) G 26 38<;>(try trivial)
 case hspec=>
 rintro _ σ Q X ⟨K,b,t,mo,u,w,fs,ps,c,s,rfl,S,hK,hfs,q⟩
 refine⟨rfl,?_⟩
 refine a7 (fun m₀ m' σ'=>m'=put m₀ "_law_holds" (.bool true)/\∃K' fs' ps',Keep [t,mo,u,w] σ σ'/\Side K' b t mo u w fs' ps' σ'/\More 9 K K'/\fs'.length<=fs.length+1) (fun R nx=>?_) ?_
 ·refine (.inl ⟨.inr (by unfold bS;decide),by decide,by decide,?_⟩)
  by_cases h5:c*48271 % 65537 % 8 < 5
  ·refine aI (decide_eq_true h5) ?_
   exact ((((⟨K,b,t,mo,u,w,fs,ps,c,s,rfl,S,hK,hfs,fun K' fs' ps' σ' k S' mr le=>nx _ _ ⟨rfl,K',fs',ps',k,S',mr,le⟩⟩))))
  ·refine aE (decide_eq_false h5) ?_
   exact ((((⟨K,b,t,mo,u,w,fs,ps,c,s,rfl,S,hK,hfs,fun K' fs' ps' σ' k S' mr le=>nx _ _ ⟨rfl,K',fs',ps',k,S',mr,le⟩⟩))))
 rintro _ σ' ⟨rfl,K',fs',ps',k,S',mr,le⟩
 refine ?_
 refine aI rfl ?_
 have hpos:0 < fs'.length:=by rw[<-S'.bk.len];exact S'.bk.ord.pos
 refine ((((bb S'.tr ⟨K',b,t,mo,u,w,fs',ps',_,rfl,S',by omega,by omega,fun σ₂ g=>?_⟩))))
 exact q K' fs' ps' σ₂ (k.trans g.keep) (S'.grow g) mr le
end
theorem xC (ns:List Int):(aL ns (some 1) (some 31)).length<=31:=by
 unfold aL gS
 rw[List.length_take]
 refine Nat.le_trans (Nat.min_le_left _ _) (Nat.le_trans (Nat.sub_le _ _) ?_)
 show clipAt _ 31<=31
 rw[dX (by decide)]
 exact Nat.min_le_left _ _
theorem qX:∀n:Fin 60,((n.1:Nat):Int).natAbs.log2 < 1920/\(Str.ofString "tops").length+(Str.ofString (toString ((n.1:Nat):Int))).length<=16777216/\(Str.ofString "tops"++Str.ofString (toString ((n.1:Nat):Int))).length+(Str.ofString "/x").length<=16777216:=by decide +kernel
theorem tC {n j:Nat} {v:V} (h:(aF 0 n++aF 0 n)[j]?=some v):∃i:Nat,i < n/\v=.int i:=by
 have hm:=List.mem_of_getElem? h
 have key:v∈aF 0 n->∃i:Nat,i < n/\v=.int i:=fun hm=>by
  obtain ⟨i,hi,rfl⟩:=List.mem_map.mp hm
  exact⟨i,List.mem_range.mp hi,by rw[Int.zero_add]⟩
 exact (List.mem_append.mp hm).elim key key
theorem Trs.two {K K':List Str} {t d:Addr} {fs:List Fi} {f:Fi} {ads:List Addr} {σ σ':ae} (h:σ' t=some (.list (ads.map V.ref++[.ref d]))) (l:ads.length=fs.length) (a:∀(i:Nat) d f,ads[i]?=some d->fs[i]?=some f->DAt K (fV f) d σ) (k:∀d F,DAt K F d σ->DAt K' F d σ') (hd:DAt K' (fV f) d σ'):Trs K' t (fs++[f]) σ':=
 Trs.snoc h l (fun i d f e1 e2=>k _ _ (a i d f e1 e2)) hd
inductive Be (b t mo u w:Addr) (k n:Nat) (σ:ae):Prop
 |mk (K:List Str) (fs:List Fi) (ps:List (List Int)) (s:Side K b t mo u w fs ps σ) (hK:K.length<=k) (hf:fs.length<=n):Be b t mo u w k n σ
inductive Ro (K:List Str) (b t mo u w:Addr) (n:Nat) (m₀ m:aq) (σ:ae):Prop
 |mk (fs:List Fi) (ps:List (List Int)) (s:Side K b t mo u w fs ps σ) (hf:fs.length=n) (me:∀z,z∉["_law_k"]->m z=m₀ z):Ro K b t mo u w n m₀ m σ
theorem re {l:List (Str×Str)} (h:l.map (·.1)=b5):∀d∈l.map (fun q=>Dd.put q.1 q.2),OkD d:=fun d hd=>by
 obtain ⟨q,hq,rfl⟩:=List.mem_map.mp hd
 obtain ⟨n,h1,h2⟩:=cJ (x:=q.1) (h▸List.mem_map.mpr ⟨q,hq,rfl⟩)
 exact .inr (show Good q.1 from h2▸cx h1)
theorem pg {l:List (Str×Str)} (h:l.map (·.1)=b5):ct [] (l.map fun q=>Dd.put q.1 q.2)=b5.reverse:=by
 unfold ct
 rw[List.append_nil,List.map_map,<-h];rfl
theorem vQ:Kp b5.reverse:=⟨by rw[List.length_reverse];exact kD.few,fun x hx=>kD.len x (List.mem_reverse.mp hx),fun h=>kD.here (List.mem_reverse.mp h)⟩
theorem rf {l:List (Str×Str)} (h:l.map (·.1)=b5):Is b5.reverse (fV (dh (fun _=>Option.none) l)) (cz l):=
 ⟨fun x hx=>List.mem_reverse.mpr (by rw[eg,h] at hx;exact hx),by rw[eg,h];exact oN,fun x=>fM l _ x (h▸oN) rfl⟩
theorem mj {l:List (Str×Str)} (h:l.map (·.1)=b5):aU (fun _=>Option.none) (l.map fun q=>Dd.put q.1 q.2)=.ok (dh (fun _=>Option.none) l):=
 gB oO tg l _ (fun x hx=>absurd rfl hx) fun q hq=>h▸List.mem_map.mpr ⟨q,hq,rfl⟩
section
variable {C:Cx} (G:Gl C Hd.vw) (hz:C.held=none) {ad:String->Addr} (Tb:XTab C oo nJ ad) (g1:GInt C "MOST_PARTS" 8) (g2:GInt C "LONGEST_PART" 12) (g3:GStr C "SIGNS" dA) {bk N:Addr} {mN:Str->Option Value} (B:Bk C bk N mN) {P:Params} (KX:(Hd.kk P).In C.hB) (hN:N=Hd.bkN)
include G hz Tb g1 g2 g3 B KX hN
theorem w6:FnAtX C 10 "law" (tn C.ns):=by
 have h0:=m___init__ G hz B KX hN
 have h1:=bP G hz
 have h2:=m_grow G hz Tb g1 g2 g3 B KX hN
 have h3:=jS G hz Tb g1 g2 g3 B KX hN
 have h4:=dN G hz Tb g1 g2 g3 B KX hN
 have h5:=m_many G hz B KX hN
 apply FnAtX.mk (xs:=["_law_script"]) G 28 40<;>(try trivial)
 case hspec=>
 rintro _ σ Q X ⟨rfl,hσ,q⟩
 refine⟨rfl,?_⟩
 refine i7 ?_
 refine a7 (fun m₀ m' σ'=>σ'=σ/\m' "_law_script"=some .script/\∃s,m' "_law_shift"=some (.int s)) (fun R nx=>?_) ?_
 ·refine ?_
  by_cases h:(0:Int) < C.ns.length
  ·refine aI (decide_eq_true h) ?_
   refine (.inl (n6 (by decide) h ?_))
   exact nx _ _ ⟨rfl,rfl,_,rfl⟩
  ·refine aE (decide_eq_false h) ?_
   exact nx _ _ ⟨rfl,rfl,_,rfl⟩
 rintro m₁ σ' ⟨rfl,msc,s,msh⟩
 intro b dx hb0 hdx hne
 refine pI hb0 hdx hne fun t mo σ₁ g1 B1 ht hm=>⟨rfl,?_⟩
 intro d ed hd
 refine⟨l1,fun u hu=>?_⟩
 refine⟨by decide,l1,fun w hw=>?_⟩
 obtain ⟨S,g2,hu0,hw0⟩:=jq B1 hd hu hw
 generalize am (am (am σ₁ d (.dict [] ed)) u (.list [.ref d])) w (.list [.tup []])=σ₂ at S g2 ⊢
 clear hu hw hd B1 g1 g2 hu0 hw0 ht hm hσ
 have msc2:put (put (put m₁ "_law_book" (.ref b)) "_law_trees" (.ref u)) "_law_older" (.ref w) "_law_script"=some .script:=msc
 have msh2:put (put (put m₁ "_law_book" (.ref b)) "_law_trees" (.ref u)) "_law_older" (.ref w) "_law_shift"=some (.int s):=msh
 have mb2:put (put (put m₁ "_law_book" (.ref b)) "_law_trees" (.ref u)) "_law_older" (.ref w) "_law_book"=some (.ref b):=rfl
 have mu2:put (put (put m₁ "_law_book" (.ref b)) "_law_trees" (.ref u)) "_law_older" (.ref w) "_law_trees"=some (.ref u):=rfl
 have mw2:put (put (put m₁ "_law_book" (.ref b)) "_law_trees" (.ref u)) "_law_older" (.ref w) "_law_older"=some (.ref w):=rfl
 refine fe ?_
 show mU _ _ (put (put (put m₁ "_law_book" (.ref b)) "_law_trees" (.ref u)) "_law_older" (.ref w)) σ₂ _ _
 generalize put (put (put m₁ "_law_book" (.ref b)) "_law_trees" (.ref u)) "_law_older" (.ref w)=m₂ at msc2 msh2 mb2 mu2 mw2 ⊢
 have nd:=S.nd
 have ne:=t6 nd
 refine a7 (fun m₀ m' σ'=>m'=m₀/\Be b t mo u w 60 2 σ') (fun R nx=>?_) ?_
 ·refine atK.of msh2 ⟨⟨by decide,by decide⟩,by decide,aZ rfl ?_⟩
  by_cases h7:s / 7 % 8=1
  ·refine aI (decide_eq_true h7) ?_
   obtain ⟨ads,xu,al,aa⟩:=S.tr
   have xw:=S.md
   have lst:Lst [u,w] σ₂:=fun x hx=>S.lst x (.tail _ (.tail _ hx))
   refine atK.of mu2 ⟨⟨_,xu⟩,rc (n:=60) ⟨by decide,by decide⟩ ?_⟩
   refine eK (fun s=>Grow σ₂ s) (fun i y=>∃x,y=.tup [.str (kE i),.str x]) (fun _ _=>trivial) _ [] 0 _ _ (by rw[aG];decide) ?_ Grow.refl ?_
   ·rintro i v hv σ₃ Q' g nx
    obtain ⟨hi,rfl⟩:=aV hv
    rw[Int.zero_add]
    obtain ⟨a1,a2,a3⟩:=qX ⟨i,hi⟩
    refine⟨_,rfl,?_⟩
    refine⟨a1,a2,a3,⟨by decide,atK.of msh2 ⟨_,_,rfl,fun x σ₄ g4=>⟨l2,nx _ _ (g.trans g4) ⟨x,?_⟩⟩⟩⟩⟩
    rw[Nat.zero_add];rfl
   ·rintro ys σ₃ g3 hlen hys a ha
    rw[aG] at hlen
    obtain ⟨l,rfl,e2⟩:=gX (T:=kE) ys 0 hys
    rw[hlen] at e2
    have el:l.map (·.1)=b5:=e2.trans (List.map_congr_left fun i _=>by rw[Nat.zero_add])
    rw[List.nil_append]
    have xa:=af σ₃ a (.list ((cz l).map fun q=>V.tup [.str q.1,q.2]))
    have ga:=g3.upd (o:=.list ((cz l).map fun q=>V.tup [.str q.1,q.2])) ha
    generalize am σ₃ a (.list ((cz l).map fun q=>V.tup [.str q.1,q.2]))=σ₄ at xa ga ⊢
    have is:=rf el
    have sl:(cz l).length=60:=by rw[<-a9,eg,el];unfold b5;rw[List.length_map,List.length_range]
    refine .inr ⟨cz l,xa,is.nd,by rw[sl];decide,fun d1 ed1 hd1=>?_⟩
    have g5:=ga.upd (o:=.dict (cz l) ed1) hd1
    have xd:=af σ₄ d1 (.dict (cz l) ed1)
    generalize am σ₄ d1 (.dict (cz l) ed1)=σ₅ at g5 xd ⊢
    have xu5:=g5 _ _ xu
    have xw5:=g5 _ _ xw
    have S5:=S.grow g5
    refine aD xu5 (by rw[List.length_map,al];decide) ?_
    have xw6:=(an (σ:=σ₅) (o:=.list (ads.map V.ref++[.ref d1])) (jC nd).symm).trans xw5
    refine atK.of mw2 ⟨⟨_,xw6⟩,⟨l1,aD xw6 (by decide) ?_⟩⟩
    have k7:Keep [u,w] σ₅ (am (am σ₅ u (.list (ads.map V.ref++[.ref d1]))) w (.list (aJ [[]]++[.tup [.int 0]]))):=fun z o e hz=>(bh hz (.tail _ (.head _))).trans ((bh hz (.head _)).trans e)
    have lst5:Lst [u,w] σ₅:=fun x hx=>let ⟨xs,e⟩:=lst x hx;⟨xs,g5 _ _ e⟩
    have xu7:am (am σ₅ u (.list (ads.map V.ref++[.ref d1]))) w (.list (aJ [[]]++[.tup [.int 0]])) u=some (.list (ads.map V.ref++[.ref d1])):=(an (jC nd)).trans (af _ _ _)
    have xw7:=af (am σ₅ u (.list (ads.map V.ref++[.ref d1]))) w (.list (aJ [[]]++[.tup [.int 0]]))
    have B7:=S5.bk.keep k7 lst5 (pM nd) (pN nd)
    have xd7:=k7 _ _ xd (lst5.out xd fun _ e=>by cases e)
    have T7:=Trs.two (K':=b5.reverse) xu7 al (fun i d f e1 e2=>(aa i d f e1 e2).grow g5) (fun d F h=>(h.keep k7 lst5).more fun _ h=>by cases h) ⟨cz l,ed1,xd7,is⟩
    clear k7 xd
    generalize am (am σ₅ u (.list (ads.map V.ref++[.ref d1]))) w (.list (aJ [[]]++[.tup [.int 0]]))=σ₇ at xu7 xw7 B7 T7 xd7 ⊢
    have al1:ads.length=1:=al
    have item:∀{s:ae} {Q:V->ae->Prop},s u=some (.list (ads.map V.ref++[.ref d1]))->Q (.ref d1) s->bl C.ns (.ref u) (.int 1) s Q:=fun {s Q} h q=>
     ch h (by decide) (by show (ads.map V.ref++[V.ref d1])[1]?=_;rw[List.getElem?_append_right (by rw[List.length_map,al1];decide),List.length_map,al1];rfl) q
    refine atK.of mb2 ⟨B7.isI rfl,atK.of mu2 (item xu7 (om xd7 ?_))⟩
    have ll:l.length=60:=by have:=congrArg List.length el;rw[List.length_map] at this;rw[this];unfold b5;rw[List.length_map,List.length_range]
    refine cR (fun s=>s=σ₇) (fun s hs=>by rw[hs];exact xd7) _ ((l.map fun q=>Dd.put q.1 q.2).map Dd.v) [] _ _ (by rw[List.length_map,List.length_map,List.length_map,ll,sl]) (by rw[List.length_map,sl];decide) ?_ rfl ?_
    ·rintro i v y hv hy s' Q' rfl n
     unfold cz at hv
     rw[List.map_map,List.getElem?_map] at hv
     rw[List.map_map,List.getElem?_map] at hy
     obtain ⟨q0,hq,rfl⟩:=Option.map_eq_some_iff.mp hv
     rw[hq] at hy
     cases Option.some.inj hy
     have mem:(q0.1,V.str q0.2)∈cz l:=List.mem_map.mpr ⟨q0,List.mem_of_getElem? hq,rfl⟩
     obtain ⟨v',v1,v2⟩:=dD (List.mem_map.mpr ⟨_,mem,rfl⟩)
     cases dL is.nd v2 mem
     refine⟨_,rfl,?_⟩
     exact atK.of mu2 (item xu7 ((qa xd7 v1 ⟨l3,n _ rfl⟩)))
    ·rintro s' rfl L hL
     rw[List.nil_append]
     have gL:Grow s' (am s' L (.list ((l.map fun q=>Dd.put q.1 q.2).map Dd.v))):=Grow.refl.upd hL
     have xL:=af s' L (.list ((l.map fun q=>Dd.put q.1 q.2).map Dd.v))
     generalize am s' L (.list ((l.map fun q=>Dd.put q.1 q.2).map Dd.v))=σ₈ at gL xL ⊢
     refine⟨[],_,b,t,mo,_,_,0,_,L,_,rfl,B7.grow gL,by decide,rfl,xL,re el,rfl,?_,by decide,fun c hc=>?_,fun g hg σ₉ k9 B9=>?_⟩
     ·show (ct [] (l.map fun q=>Dd.put q.1 q.2)).length<=1000
      rw[pg el];exact vQ.few
     ·rw[mj el] at hc;cases hc
     cases Except.ok.inj ((mj el).symm.trans hg)
     have B9:BookAt (ct [] (l.map fun q=>Dd.put q.1 q.2)) b t mo _ _ σ₉:=B9
     rw[pg el] at B9
     refine pL rfl (aE (congrArg not (decide_eq_true rfl)) ?_)
     have lt8:Lst [t,mo] σ₈:=fun x hx=>by
      rcases List.mem_cons.mp hx with rfl | hx
      ·exact let ⟨_,h,_,_⟩:=B7.tr;⟨_,gL _ _ h⟩
      ·cases List.mem_singleton.mp hx;exact⟨_,gL _ _ B7.md⟩
     exact nx _ _ ⟨rfl,b5.reverse,_,_,⟨B9,(T7.grow gL).keep k9 lt8 ne.1,k9 _ _ (gL _ _ xw7) ne.2,nd⟩,by rw[List.length_reverse];unfold b5;rw[List.length_map,List.length_range];decide,Nat.le_of_ble_eq_true rfl⟩
  ·refine aE (decide_eq_false h7) ?_
   exact nx _ _ ⟨rfl,_,_,_,S,Nat.zero_le _,by decide⟩
 clear S
 rintro m₂ σ₃ ⟨rfl,K,fs,ps,S,hK,hf⟩
 refine a7 (fun m₀ m' σ'=>(∀z,z∉["_law_k"]->m' z=m₀ z)/\Be b t mo u w 60 92 σ') (fun R nx=>?_) ?_
 ·refine atK.of msh2 ⟨⟨by decide,by decide⟩,by decide,aZ rfl ?_⟩
  have hpos:0 < fs.length:=by rw[<-S.bk.len];exact S.bk.ord.pos
  by_cases h7:s / 56 % 8=1
  ·refine aI (decide_eq_true h7) ?_
   refine atK.of mu2 (bb S.tr (oQ (atK.of mu2 (bb S.tr (qG (AA ⟨by omega,by omega,by omega,by omega⟩ ?_))))))
   rw[show ((fs.length:Int)+89-((fs.length:Int)-1)).toNat=90 from by omega]
   refine be (fun i m' σ'=>Ro K b t mo u w (fs.length+i) m₂ m' σ') (fun _ _ _ _=>trivial) _ ?_ ?_ _ _ ⟨fs,ps,S,rfl,fun _ _=>rfl⟩
   ·rintro i v m' σ' Q' hv ⟨fs',ps',S',hf',me⟩ n1
    obtain ⟨hi,rfl⟩:=aV hv
    obtain ⟨k,hk⟩:∃k:Nat,(fs.length:Int)-1+(i:Int)=k:=⟨fs.length-1+i,by omega⟩
    rw[hk]
    have kl:k < fs'.length:=by omega
    obtain ⟨f,hfk⟩:∃f,fs'[k]?=some f:=⟨_,List.getElem?_eq_getElem kl⟩
    obtain ⟨ads,xu,al,aa⟩:=S'.tr
    obtain ⟨dk,hdk⟩:∃d,ads[k]?=some d:=⟨_,List.getElem?_eq_getElem (by rw[al];exact kl)⟩
    have xw:=S'.md
    have mu':=(me "_law_trees" (by decide)).trans mu2
    have mw':=(me "_law_older" (by decide)).trans mw2
    have mb':=(me "_law_book" (by decide)).trans mb2
    refine⟨_,rfl,?_⟩
    refine atK.of ((aj (by decide)).trans mw') ⟨⟨_,xw⟩,⟨l1,aD xw (by unfold aJ;rw[List.length_map,S'.bk.len];omega) ?_⟩⟩
    have xu1:=(an (σ:=σ') (o:=.list (aJ ps'++[.tup [.int k]])) (jC nd)).trans xu
    refine atK.of ((aj (by decide)).trans mu') ⟨⟨_,xu1⟩,atK.of ((aj (by decide)).trans mu') ((ch xu1 (Int.natCast_nonneg _) (by rw[Int.toNat_natCast,List.getElem?_map,hdk];rfl) (aD xu1 (by rw[List.length_map,al];omega) ?_)))⟩
    have k2:Keep [u,w] σ' (am (am σ' w (.list (aJ ps'++[.tup [.int k]]))) u (.list (ads.map V.ref++[.ref dk]))):=fun z o e hz=>(bh hz (.head _)).trans ((bh hz (.tail _ (.head _))).trans e)
    have xu2:=af (am σ' w (.list (aJ ps'++[.tup [.int k]]))) u (.list (ads.map V.ref++[.ref dk]))
    have xw2:am (am σ' w (.list (aJ ps'++[.tup [.int k]]))) u (.list (ads.map V.ref++[.ref dk])) w=some (.list (aJ ps'++[.tup [.int k]])):=(an (jC nd).symm).trans (af _ _ _)
    have lst:Lst [u,w] σ':=fun x hx=>S'.lst x (.tail _ (.tail _ hx))
    generalize am (am σ' w (.list (aJ ps'++[.tup [.int k]]))) u (.list (ads.map V.ref++[.ref dk]))=σ₄ at k2 xu2 xw2 ⊢
    have B4:=S'.bk.keep k2 lst (pM nd) (pN nd)
    have T4:Trs K u (fs'++[f]) σ₄:=Trs.snoc xu2 al (fun i d f e1 e2=>(aa i d f e1 e2).keep k2 lst) ((aa k dk f hdk hfk).keep k2 lst)
    refine atK.of ((aj (by decide)).trans mb') ⟨B4.isI rfl,⟨by decide,fun L hL=>?_⟩⟩
    have gL:Grow σ₄ (am σ₄ L (.list [])):=Grow.refl.upd hL
    have xL:=af σ₄ L (.list [])
    generalize am σ₄ L (.list [])=σ₅ at gL xL ⊢
    refine⟨K,K,b,t,mo,fs',ps',k,f,L,[],rfl,B4.grow gL,Int.natCast_nonneg _,by rw[Int.toNat_natCast];exact hfk,xL,fun _ h=>(by cases h),rfl,Nat.le_trans hK (by decide),by omega,fun c hc=>(by cases hc),fun g hg σ₆ k6 B6=>?_⟩
    cases Except.ok.inj hg
    have lt5:Lst [t,mo] σ₅:=fun x hx=>by
     rcases List.mem_cons.mp hx with rfl | hx
     ·exact let ⟨_,h,_,_⟩:=B4.tr;⟨_,gL _ _ h⟩
     ·cases List.mem_singleton.mp hx;exact⟨_,gL _ _ B4.md⟩
    refine n1 _ _ ⟨_,_,⟨B6,(T4.grow gL).keep k6 lt5 ne.1,?_,nd⟩,by rw[List.length_append,hf'];rfl,fun z hz=>(ak hz (.head _)).trans (me z hz)⟩
    rw[k6 _ _ (gL _ _ xw2) ne.2];unfold aJ;rw[List.map_append];rfl
   ·rintro m' σ' ⟨fs',ps',S',hf',me⟩
    rw[aG] at hf'
    exact nx _ _ ⟨me,K,fs',ps',S',hK,by omega⟩
  ·refine aE (decide_eq_false h7) ?_
   exact nx _ _ ⟨fun _ _=>rfl,K,fs,ps,S,hK,by omega⟩
 clear S hK hf
 rintro m₃ σ₄ ⟨me,K,fs,ps,S,hK,hf⟩
 have msc3:=(me "_law_script" (by decide)).trans msc2
 have msh3:=(me "_law_shift" (by decide)).trans msh2
 refine atK.of ((me "_law_book" (by decide)).trans mb2) (atK.of ((me "_law_trees" (by decide)).trans mu2) (atK.of ((me "_law_older" (by decide)).trans mw2) ⟨l3,fun b2 dx2 hb2 hdx2 hne2=>pI hb2 hdx2 hne2 fun t2 mo2 σ₅ g5 B2 ht2 hm2=>⟨rfl,?_⟩⟩))
 intro d2 ed2 hd2
 refine⟨l1,fun u2 hu2=>⟨by decide,l1,fun w2 hw2=>⟨l3,l2,fun bo hbo=>?_⟩⟩⟩
 obtain ⟨S2,g6,hu0,hw0⟩:=jq B2 hd2 hu2 hw2
 generalize am (am (am σ₅ d2 (.dict [] ed2)) u2 (.list [.ref d2])) w2 (.list [.tup []])=σ₆ at S2 g6 hbo ⊢
 have g46:=g5.trans g6
 have BO:Bo ⟨b,t,mo,u,w⟩ ⟨b2,t2,mo2,u2,w2⟩ bo 0 (am σ₆ bo (.list [Rc.v ⟨b,t,mo,u,w⟩,Rc.v ⟨b2,t2,mo2,u2,w2⟩])):=by
  have gb:Grow σ₆ (am σ₆ bo (.list [Rc.v ⟨b,t,mo,u,w⟩,Rc.v ⟨b2,t2,mo2,u2,w2⟩])):=Grow.refl.upd hbo
  refine⟨⟨K,fs,ps,S.grow (g46.trans gb),hK,hf⟩,⟨_,_,_,S2.grow gb,Nat.zero_le _,by decide⟩,af _ _ _,fun x hx hx2=>?_,fun hx=>?_,fun hx=>?_⟩
  ·obtain ⟨xs,e⟩:=S.lst x hx
   have:σ₄ x=Option.none:=by
    rcases List.mem_cons.mp hx2 with rfl | hx2
    ·exact ht2
    rcases List.mem_cons.mp hx2 with rfl | hx2
    ·exact hm2
    rcases List.mem_cons.mp hx2 with rfl | hx2
    ·exact g5.none hu0
    cases List.mem_singleton.mp hx2
    exact g5.none hw0
   rw[this] at e;cases e
  ·obtain ⟨xs,e⟩:=S.lst bo hx
   rw[g46 _ _ e] at hbo;cases hbo
  ·obtain ⟨xs,e⟩:=S2.lst bo hx
   rw[e] at hbo;cases hbo
 clear hu2 hw2 hd2 S2 g6 hu0 hw0 g5 B2 ht2 hm2 g46 S hK hf nd ne
 refine fe ?_
 show mU _ _ (put m₃ "_law_both" (.ref bo)) (am σ₆ bo (.list [Rc.v ⟨b,t,mo,u,w⟩,Rc.v ⟨b2,t2,mo2,u2,w2⟩])) _ _
 have msc4:put m₃ "_law_both" (.ref bo) "_law_script"=some .script:=(aj (by decide)).trans msc3
 have msh4:put m₃ "_law_both" (.ref bo) "_law_shift"=some (.int s):=(aj (by decide)).trans msh3
 have mb4:put m₃ "_law_both" (.ref bo) "_law_both"=some (.ref bo):=rfl
 generalize put m₃ "_law_both" (.ref bo)=m₄ at msc4 msh4 mb4 ⊢
 generalize am σ₆ bo (.list [Rc.v ⟨b,t,mo,u,w⟩,Rc.v ⟨b2,t2,mo2,u2,w2⟩])=σ₇ at BO ⊢
 generalize (⟨b2,t2,mo2,u2,w2⟩:Rc)=r2 at BO
 generalize (⟨b,t,mo,u,w⟩:Rc)=r1 at BO
 clear mb2 mu2 mw2 msc2 msh2 me msc3 msh3 hbo
 refine atK.of msc4 ⟨1,rfl,31,rfl,fun L hL=>i6 (af _ _ _) ?_⟩
 have BL:=BO.grow (Grow.refl.upd (o:=.list ((aL C.ns (some 1) (some 31)).map V.int)) hL)
 have xL:=af σ₇ L (.list ((aL C.ns (some 1) (some 31)).map V.int))
 have oL1:L∉r1.l:=fun h=>by obtain ⟨_,e⟩:=BO.s1.lst L h;rw[hL] at e;cases e
 have oL2:L∉r2.l:=fun h=>by obtain ⟨_,e⟩:=BO.s2.lst L h;rw[hL] at e;cases e
 generalize am σ₇ L (.list ((aL C.ns (some 1) (some 31)).map V.int))=σ₈ at BL xL ⊢
 clear BO
 have pos:∀{K:List Str} {r:Rc} {fs:List Fi} {ps:List (List Int)} {σ:ae},Side K r.b r.t r.mo r.u r.w fs ps σ->0 < fs.length:=fun S=>by rw[<-S.bk.len];exact S.bk.ord.pos
 refine be (fun i m' σ'=>Bo r1 r2 bo i σ'/\σ' L=some (.list ((aL C.ns (some 1) (some 31)).map V.int))/\m' "_law_shift"=some (.int s)/\m' "_law_both"=some (.ref bo)) (fun i m' σ' h=>h.2.1) _ ?_ ?_ _ _ ⟨BL,xL,msh4,mb4⟩
 ·clear BL xL
  rintro i v m' σ' Q' hv ⟨BO,xL,ms,mb⟩ n1
  obtain ⟨c,hc,rfl⟩:=lq hv
  have hi:i < 31:=Nat.lt_of_lt_of_le (List.getElem?_eq_some_iff.mp hc).1 (xC _)
  have key:∃r:Rc,[r1.v,r2.v][(if decide (c % 7=3)=true then (1:Int) else 0).toNat]?=some r.v/\(0:Int)<=(if decide (c % 7=3)=true then 1 else 0)/\Sd r i σ'/\L∉r.l/\∀σ'',Keep r.l σ' σ''->Sd r (i+1) σ''->Bo r1 r2 bo (i+1) σ'':=by
   cases decide (c % 7=3) with
   |true=>exact⟨r2,rfl,by decide,BO.s2,oL2,fun _ k s=>BO.turn2 k s⟩
   |false=>exact⟨r1,rfl,by decide,BO.s1,oL1,fun _ k s=>BO.turn1 k s⟩
  obtain ⟨r,hr,h0,⟨K,fs,ps,S,hK,hf⟩,oL,turn⟩:=key
  refine⟨_,rfl,?_⟩
  refine atK.of ((aj (by decide)).trans mb) (⟨by decide,aZ rfl (ch BO.x h0 hr ?_)⟩)
  refine (yq ((wg ((zp (atK.of ms ⟨K,r.b,r.t,r.mo,r.u,r.w,fs,ps,c,s,rfl,S,by omega,by omega,fun K' fs' ps' σ₂ k S' mr le=>?_⟩))))))
  have BO2:=turn σ₂ k ⟨K',fs',ps',S',by have:=mr.len;omega,by omega⟩
  have xL2:=k _ _ xL oL
  refine atK.of mb (i6 BO2.x ?_)
  refine aC (fun j m'' σ₃=>Grow σ₂ σ₃/\rZ ["_law_other","_law_many"] _ m'') (fun _ _ _=>False) (fun j m'' σ₃ h=>h.1 _ _ BO2.x) _ ?_ ?_ (fun _ _ _ h=>h.elim) _ _ ⟨Grow.refl,fun _ _=>rfl⟩
  ·rintro j v m'' σ₃ Q'' hv' ⟨g,me⟩ k1 k2 k3
   obtain ⟨r',rfl,sd⟩:=BO2.at hv'
   obtain ⟨K₂,fs₂,ps₂,S₂,_,_⟩:=sd.grow g
   have hpos:=pos S₂
   refine⟨_,rfl,?_⟩
   refine (wg (bb S₂.tr ?_))
   refine (yq ⟨S₂.bk.isI rfl,⟨K₂,_,_,_,fs₂,ps₂,rfl,S₂.bk,(pL rfl (aE (congrArg not (decide_eq_true rfl)) ?_))⟩⟩)
   have hp:(0:Int) < (fs₂.length:Int):=Int.ofNat_lt.mpr hpos
   refine (yq ((wg ((zp (atK.of (me "_law_cell" (by decide)) (⟨hp,⟨K₂,r'.b,r'.t,r'.mo,r'.u,r'.w,fs₂,ps₂,_,rfl,S₂,Int.emod_nonneg _ (Int.ne_of_gt hp),Int.emod_lt_of_pos _ hp,fun σ₄ g4=>?_⟩⟩)))))))
   exact k1 _ _ ⟨g.trans g4,fun z hz=>(ak hz (.tail _ (.head _))).trans ((ak hz (.head _)).trans (me z hz))⟩
  ·rintro m'' σ₃ ⟨g,me⟩
   exact n1 _ _ ⟨BO2.grow g,g _ _ xL2,(me "_law_shift" (by decide)).trans ms,(me "_law_both" (by decide)).trans mb⟩
 ·clear BL xL
  rintro m' σ' ⟨BO,_,_,mb⟩
  refine atK.of mb (i6 BO.x ?_)
  refine aC (fun j m'' σ₃=>Grow σ' σ₃) (fun _ _ _=>False) (fun j m'' σ₃ h=>h _ _ BO.x) _ ?_ ?_ (fun _ _ _ h=>h.elim) _ _ Grow.refl
  ·rintro j v m'' σ₃ Q'' hv' g k1 k2 k3
   obtain ⟨r',rfl,sd⟩:=BO.at hv'
   obtain ⟨K₂,fs₂,ps₂,S₂,_,_⟩:=sd.grow g
   have few:fs₂.length<=200:=by rw[<-S₂.bk.len];exact S₂.bk.ord.few
   refine⟨_,rfl,?_⟩
   refine (wg (bb S₂.tr ⟨⟨Int.natCast_nonneg _,Int.le_trans (Int.ofNat_le.mpr few) (by decide)⟩,fun l₁ h₁=>.inr (.inr ⟨_,af _ _ _,rfl,?_,fun l₂ h₂=>i6 (af _ _ _) ?_⟩)⟩))
   ·rw[aG,Int.toNat_natCast];exact Nat.le_trans few (by decide)
   rw[Int.toNat_natCast]
   have g2:=(Grow.refl.upd (o:=.list (aF 0 fs₂.length)) h₁).upd (o:=.list (aF 0 fs₂.length++aF 0 fs₂.length)) h₂
   have x2:=af (am σ₃ l₁ (.list (aF 0 fs₂.length))) l₂ (.list (aF 0 fs₂.length++aF 0 fs₂.length))
   generalize am (am σ₃ l₁ (.list (aF 0 fs₂.length))) l₂ (.list (aF 0 fs₂.length++aF 0 fs₂.length))=σ₅ at g2 x2 ⊢
   refine aC (fun jj m3 σ₄=>Grow σ₅ σ₄/\rZ ["_law_number"] _ m3) (fun _ _ _=>False) (fun jj m3 σ₄ h=>h.1 _ _ x2) _ ?_ ?_ (fun _ _ _ h=>h.elim) _ _ ⟨Grow.refl,fun _ _=>rfl⟩
   ·rintro jj v m3 σ₄ Q3 hv3 ⟨g4,me⟩ e1 e2 e3
    obtain ⟨i,hi,rfl⟩:=tC hv3
    have S4:=S₂.grow (g2.trans g4)
    have mo:m3 "_law_other"=some r'.v:=me "_law_other" (by decide)
    refine⟨_,rfl,?_⟩
    refine atK.of ((aj (by decide)).trans mo) (yq (atK.of ((aj (by decide)).trans mo) (wg (atK.of ((aj (by decide)).trans mo) (zp (⟨K₂,r'.b,r'.t,r'.mo,r'.u,r'.w,fs₂,ps₂,_,rfl,S4,Int.natCast_nonneg _,Int.ofNat_lt.mpr hi,fun σ₆ g6=>?_⟩))))))
    exact e1 _ _ ⟨g4.trans g6,fun z hz=>(ak hz (.head _)).trans (me z hz)⟩
   ·rintro m3 σ₄ ⟨g4,_⟩
    exact k1 _ _ ((g.trans g2).trans g4)
  ·rintro m'' σ₃ _
   exact q _
end
set_option tactic.hygienic true
noncomputable def xS (k:String):Addr:=match k with
 |"RoadError"=>31
 |"NoPath"=>44
 |"NoFile"=>56
 |"InTheWay"=>68
 |"NoClash"=>80
 |"Clashed"=>92
 |"SameVersion"=>116
 |_=>0
theorem wB (P:Params):(nJ.map fun k=>nsIn (Hd.kk P) mainGlobals (Str.ofString k))=nJ.map fun k=>some (some (.ref (xS k))):=by kernel_rfl
theorem qQ (P:Params):qR (Hd.kk P) 31 ba=true:=by kernel_rfl
theorem vA (P:Params):(oo.all fun k=>qR (Hd.kk P) (xS k) (.ref 31::ba))=true:=by kernel_rfl
theorem xI (P:Params):nsIn (Hd.kk P) mainGlobals (Str.ofString "Book")=some (some (.ref Hd.bkA)):=by kernel_rfl
theorem xJ (P:Params):xK (Hd.kk P) Hd.bkA Hd.bkN=true:=by kernel_rfl
theorem ti {C:Cx} {P:Params} (X:(Hd.kk P).In C.hB) (g:C.hB.Ns mainGlobals C.mg) (hv:C.mg (Str.ofString "ValueError")=Option.none):XTab C oo nJ xS:=by
 have mgk:∀k∈nJ,C.mg (Str.ofString k)=some (.ref (xS k)):=by
  intro k hk
  have h:=wB P
  exact mg_of X g (List.map_inj_left.mp h k hk)
 have xck:∀k∈oo,XC C.hB (xS k) (.ref 31::ba):=fun k hk=>i8 X (List.all_eq_true.mp (vA P) k hk)
 refine⟨fun k hk=>⟨mgk k hk,?_⟩,fun c hc=>?_,hv⟩
 ·rcases List.mem_cons.mp hk with rfl | hk
  ·exact⟨_,i8 X (qQ P)⟩
  ·exact⟨_,xck k hk⟩
 ·refine⟨.ref 31::ba,mgk c (.tail _ hc),xck c hc,by decide,?_⟩
  revert c
  decide
theorem rK {p:Program} {loose:List Str} {mean:ExcName->Option Value} {mg mb:Str->Option Value} {h:Heap} {x:String} (T:Top p loose mean mg mb h) (hf:(!(startupNames++loose++(recsOf p).map (·.name)++(litsOf p).map (·.1)++(clssOf p loose).map (·.name)).contains (Str.ofString x))=true):mg (Str.ofString x)=none:=by
 simp only[Bool.not_eq_true',List.contains_eq_mem,decide_eq_false_iff_not,List.mem_append,not_or] at hf
 obtain ⟨⟨⟨⟨h1,h2⟩,h3⟩,h4⟩,h5⟩:=hf
 exact T.free _ h1 h2 h3 h4 h5
theorem zf:(!(startupNames++(looseW Hd.vw [])++(recsOf Hd.vw).map (·.name)++(litsOf Hd.vw).map (·.1)++(clssOf Hd.vw (looseW Hd.vw [])).map (·.name)).contains (Str.ofString "ValueError"))=true:=by decide +kernel
theorem zY:(["len","range","min","max","isinstance","bool","str","int","list","dict","set","sorted","tuple","sum","type"].all fun x:String=>!(startupNames++(looseW Hd.vw [])++(recsOf Hd.vw).map (·.name)++(litsOf Hd.vw).map (·.1)++(clssOf Hd.vw (looseW Hd.vw [])).map (·.name)).contains (Str.ofString x))=true:=by decide +kernel
theorem v1:valOf Hd.vw (Str.ofString "LONGEST_PART")=some (.int 12):=by rfl
theorem v2:valOf Hd.vw (Str.ofString "SIGNS")=some (.str (Str.ofString "abcdefghijklmnopqrstuvwxyzABCDEFGHIJKLMNOPQRSTUVWXYZ0123456789.-_")):=by rfl
theorem v3:valOf Hd.vw (Str.ofString "MOST_PARTS")=some (.int 8):=by rfl
theorem zS:importsNone Hd.vw=true:=by decide +kernel
end
end Mine
section
open PySem PySem.W PyProof.Rows PySem.Calls
set_option maxRecDepth 100000
set_option maxHeartbeats 8000000
theorem PySem.Challenge.cw_uf050007_11_holds : PySem.Challenge.rw_uf050007_11.Holds :=
 Mine.Hd.hd (by rfl) (by rfl) (by rfl) (by
 intro w s₀ s₁ mg mb G Y fa o pm cd doc dV kV ho hd hcd hD hmg hg args vals as hpre hlay hrd hwl hlo
 have KX:=kIn_of Y
 have X:=(Ground.X G).1
 have V:=(Ground.X G).2
 refine Ground.open G ?_
 intro T B D TE TW
 try (refine guard_noD D (by decide +kernel) ?_;clear D)
 obtain ⟨_,_,M⟩:=bmod_of_top T
 wrow_args hpre hlay hrd hwl hlo
 all_goals first | refine callC_kw (enter_call ?_) | refine enter_call ?_ | refine callC_kw (enter_callW ?_) | refine enter_callW ?_ | w_how
 rename_i ns _ _ _ _ _ _ _ aS vs _ hL _ _ _ hI _ hn _
 have O:Mine.Cx.Ok ⟨PySem.Challenge.rw_uf050007_11.row.prog,w,s₁,aS,ns,mg,mb,none⟩:=Mine.Cx.ok_of rfl T Mine.zS hL hI hn
 have GG:=Mine.Gl.of T O Mine.zY
 have hve:mg (Str.ofString "ValueError")=none:=Mine.rK T Mine.zf
 have Tb:=Mine.ti (C:=⟨PySem.Challenge.rw_uf050007_11.row.prog,w,s₁,aS,ns,mg,mb,none⟩) (P:=w.params) KX T.g hve
 have g1:Mine.GInt ⟨PySem.Challenge.rw_uf050007_11.row.prog,w,s₁,aS,ns,mg,mb,none⟩ "LONGEST_PART" 12:=Mine.GInt.of T Mine.v1
 have g2:Mine.GStr ⟨PySem.Challenge.rw_uf050007_11.row.prog,w,s₁,aS,ns,mg,mb,none⟩ "SIGNS" Mine.dA:=Mine.GStr.of T Mine.v2
 have g3:Mine.GInt ⟨PySem.Challenge.rw_uf050007_11.row.prog,w,s₁,aS,ns,mg,mb,none⟩ "MOST_PARTS" 8:=Mine.GInt.of T Mine.v3
 obtain ⟨mN,BK⟩:=Mine.qy (C:=⟨PySem.Challenge.rw_uf050007_11.row.prog,w,s₁,aS,ns,mg,mb,none⟩) KX (Mine.xJ w.params) (mg_of KX T.g (Mine.xI w.params))
 obtain ⟨a,o',fd',e1,e2,e3,S⟩:=Mine.w6 GG rfl Tb g3 g1 g2 BK (P:=w.params) KX rfl
 have ea:a=fa:=by
  have:=e1.symm.trans hmg
  cases this;rfl
 subst ea
 exact Mine.nI rfl S (by decide) hg (raisesW_false (by wrow_none_raised)) (by wrow_post))
end
