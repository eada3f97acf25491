import PyProof.Rows.All
import Wide.All
import OpenK.AllK
import Wide.FinOn
import PyProof.Walks
import PyProof.WalksMore
import PyProof.Cells
import PyProof.DictWalks
import PyProof.StrBlock
import PyProof.CompFree
import PyProof.StrCalls2
import PyProof.DefCall
import PyProof.MakeMany
import PyProof.CallType
import PyProof.Ns1
import PyProof.LetGo
import PyProof.PureInt
import PyProof.StrOps
import PyProof.Rows.RuleB_mod
import PyProof.Rows.RuleB_floordiv
import PyProof.Rows.RuleB_mul
import PyProof.Rows.RuleB_pow
import PyProof.Rows.RuleC_bool
import PyProof.Rows.EqNone
import PyProof.Rows.StrRules
import PyProof.Rows.IntBool
import PyProof.Raises
import PyProof.ForRange
import PyProof.RangeFor
import PyProof.StrWalks
import PyProof.IsiPairs
import PyProof.IsiHeapPairs
import PyProof.WalkInts
import PyProof.SliceMore
import PyProof.SliceStr2
import PyProof.EqAt
import PyProof.ListIndexNeg
import PyProof.StrCalls3
import PyProof.Rows.Tup
import PyProof.Rows.Lst
import PyProof.Rows.SeqMore
import PyProof.StrOps2
import PyProof.DictTruth
import PyProof.EqKinds
import PyProof.StrCalls
import PyProof.CallStr
import PyProof.Conv_int_bool
import PyProof.FactsAll.list
import PyProof.StrLawsOcc
import PyProof.FitsReplace
import PyProof.StrLawsTight
import PyProof.StrBlock2
import KE.KDictList
import KE.KItemsList
import KE.KDictOf
import PyProof.DictRoads
import KE.KEqDict
import PyProof.Rows.SortRuns
import PyProof.Rows.SortKey
import PyProof.Rows.SortShell
import PyProof.Rows.SortStr
import PyProof.Rows.TupReads
import PyProof.RaisesMany
import PyProof.StationsW
import PyProof.Rows.OwnQ
import PyProof.ExcBaseAll.ValueError
import PyProof.ExcAttrAll.ValueError
import PyProof.IsInstance
import PyProof.RulesAs
import PyProof.RulesDel
import PyProof.ObjNew
import PyProof.InstLoad
import PyProof.InstStoreFacts
import PyProof.AssignAttr
import PyProof.Rows.PlainNoArg
import KE.KDictSum
import KE.KRevIter
import PyProof.DictTable
import PyProof.Rows.MinMaxN
import PyProof.Rows.Range3
import PyProof.ListMulRoad
import PyProof.TupleIter
import PyProof.NeKinds
import PyProof.ZipIter
import PySem.Challenge.RW_uf050007_13
set_option Elab.async false
set_option linter.unusedVariables false
set_option linter.unusedSimpArgs false
set_option autoImplicit false
noncomputable section
namespace Mine
inductive LT' where
 | v (i : Nat)
 | n (k : Nat)
 | a (x y : LT')
 | m (k : Nat) (x : LT')
noncomputable def LT'.den (c : List Nat) : LT' → Nat
 | .v i => c.getD i 0
 | .n k => k
 | .a x y => x.den c + y.den c
 | .m k x => k * x.den c
structure PL where
 r : List Nat
 k : Nat
noncomputable def PL.ev (c : List Nat) : List Nat → Nat
 | [] => 0
 | q :: r => q * c.headD 0 + PL.ev c.tail r
noncomputable def PL.den (c : List Nat) (p : PL) : Nat := PL.ev c p.r + p.k
noncomputable def mH : List Nat → List Nat → List Nat
 | [], b => b
 | a, [] => a
 | x :: a, y :: b => (x + y) :: mH a b
theorem lp : ∀ (c a b : List Nat), PL.ev c (mH a b) = PL.ev c a + PL.ev c b
 | _, [], b => by simp [mH, PL.ev]
 | _, x :: a, [] => by simp [mH, PL.ev]
 | c, x :: a, y :: b => by
  have ih := lp c.tail a b
  simp only [mH, PL.ev, ih, Nat.add_mul]; exact Nat.add_add_add_comm _ _ _ _
noncomputable def pd : Nat → List Nat
 | 0 => [1]
 | i + 1 => 0 :: pd i
theorem kj : ∀ (i : Nat) (c : List Nat), PL.ev c (pd i) = c.getD i 0
 | 0, [] => rfl
 | 0, x :: c => by simp [pd, PL.ev]
 | i + 1, [] => by
  have := kj i []
  simp [pd, PL.ev] at this ⊢; exact this
 | i + 1, x :: c => by
  have := kj i c
  simp [pd, PL.ev] at this ⊢; exact this
theorem nC (k : Nat) : ∀ (c a : List Nat), PL.ev c (a.map (k * ·)) = k * PL.ev c a
 | _, [] => rfl
 | c, x :: a => by
  have ih := nC k c.tail a
  simp only [List.map_cons, PL.ev, ih, Nat.mul_add, Nat.mul_assoc]
noncomputable def LT'.pl : LT' → PL
 | .v i => ⟨pd i, 0⟩
 | .n k => ⟨[], k⟩
 | .a x y => ⟨mH x.pl.r y.pl.r, x.pl.k + y.pl.k⟩
 | .m k x => ⟨x.pl.r.map (k * ·), k * x.pl.k⟩
theorem iV (c : List Nat) : ∀ x : LT', x.pl.den c = x.den c
 | .v i => by simp [LT'.pl, PL.den, LT'.den, kj]
 | .n k => by simp [LT'.pl, PL.den, LT'.den, PL.ev]
 | .a x y => by
  have h1 := iV c x
  have h2 := iV c y
  unfold PL.den at h1 h2
  simp only [LT'.pl, PL.den, LT'.den, lp]; rw [← h1, ← h2]; exact Nat.add_add_add_comm _ _ _ _
 | .m k x => by
  have h1 := iV c x
  unfold PL.den at h1
  simp only [LT'.pl, PL.den, LT'.den, nC, ← h1, Nat.mul_add]
noncomputable def vz : List Nat → List Nat → Bool
 | _, [] => true
 | [], y :: b => y == 0 && vz [] b
 | x :: a, y :: b => Nat.ble y x && vz a b
theorem nM : ∀ (c a b : List Nat), vz a b = true → PL.ev c b ≤ PL.ev c a
 | _, _, [], _ => Nat.zero_le _
 | c, [], y :: b, h => by
  simp [vz] at h
  have := nM c.tail [] b h.2
  simp [PL.ev, h.1] at this ⊢; exact this
 | c, x :: a, y :: b, h => by
  simp [vz] at h
  have := nM c.tail a b h.2
  have h2 := Nat.mul_le_mul_right (c.headD 0) h.1
  exact Nat.add_le_add h2 this
abbrev Cert := List (Nat × LT' × LT')
noncomputable def Cert.den (c : List Nat) : Cert → Prop → Prop
 | [], g => g
 | (_, x, y) :: r, g => x.den c ≤ y.den c → Cert.den c r g
noncomputable def Cert.sum : Cert → PL × PL
 | [] => (⟨[], 0⟩, ⟨[], 0⟩)
 | (w, x, y) :: r => let s := Cert.sum r; (⟨mH (x.pl.r.map (w * ·)) s.1.r, w * x.pl.k + s.1.k⟩, ⟨mH (y.pl.r.map (w * ·)) s.2.r, w * y.pl.k + s.2.k⟩)
noncomputable def Cert.ok (t : Cert) : Bool := let s := t.sum; vz s.1.r s.2.r && Nat.blt s.2.k s.1.k
theorem mv (c : List Nat) (g : Prop) : ∀ t : Cert, (t.sum.1.den c ≤ t.sum.2.den c → g) → Cert.den c t g
 | [], h => h (Nat.le_refl _)
 | (w, x, y) :: r, h => fun hxy => mv c g r fun hr => h (by
   have h1 := iV c x
   have h2 := iV c y
   have h3 := Nat.mul_le_mul_left w hxy
   rw [← h1, ← h2] at h3
   unfold PL.den at h3 hr ⊢
   simp only [Cert.sum, lp, nC]
   rw [Nat.mul_add, Nat.mul_add] at h3
   have h4 := Nat.add_le_add h3 hr
   rw [Nat.add_add_add_comm] at h4
   exact Nat.le_trans h4 (Nat.le_of_eq (Nat.add_add_add_comm _ _ _ _)))
theorem yy (c : List Nat) (t : Cert) (h : t.ok = true) : Cert.den c t False := mv c False t fun hs => by
 unfold Cert.ok at h
 simp only [Bool.and_eq_true, Nat.blt_eq] at h
 have h1 := nM c _ _ h.1
 have h2 := h.2
 exact Nat.lt_irrefl _ (Nat.lt_of_lt_of_le (Nat.add_lt_add_of_le_of_lt h1 h2) hs)
end Mine
namespace Mine
theorem a9 (a b : Nat) : a ≤ a - b + b := Nat.sub_le_iff_le_add.mp (Nat.le_refl _)
theorem bj {a b : Nat} (h : b ≤ a) : a - b + b ≤ a := Nat.le_of_eq (Nat.sub_add_cancel h)
theorem qx (a b : Nat) : a - b + b = a ∨ a - b = 0 := (Nat.le_total b a).imp Nat.sub_add_cancel Nat.sub_eq_zero_of_le
theorem nX (a k : Nat) : k * (a / k) ≤ a := Nat.mul_div_le a k
theorem k6 (a k : Nat) (h : 0 < k) : a < k * (a / k) + k := Nat.lt_of_le_of_lt (Nat.le_of_eq (Nat.div_add_mod a k).symm) (Nat.add_lt_add_left (Nat.mod_lt a h) _)
theorem kF (a b : Nat) : a ≤ min a b ∨ b ≤ min a b := (Nat.le_total a b).imp (fun h => Nat.le_min.mpr ⟨Nat.le_refl _, h⟩) (fun h => Nat.le_min.mpr ⟨h, Nat.le_refl _⟩)
theorem i3 (a b : Nat) : max a b ≤ a ∨ max a b ≤ b := (Nat.le_total b a).imp (fun h => Nat.max_le.mpr ⟨Nat.le_refl _, h⟩) (fun h => Nat.max_le.mpr ⟨h, Nat.le_refl _⟩)
abbrev u0 : LT' := .v 0
abbrev u1 : LT' := .v 1
abbrev u2 : LT' := .v 2
abbrev u3 : LT' := .v 3
theorem bw {a b : Nat} (h : ¬ a < b) : b ≤ a := Nat.le_of_not_lt h
theorem jB {a b : Nat} (h : ¬ a ≤ b) : b < a := Nat.lt_of_not_le h
theorem ga {α : Type} {l : List α} {i : Nat} (h : l.drop i = []) (hi : i ≤ l.length) : i = l.length := Nat.le_antisymm hi (List.drop_eq_nil_iff.mp h)
theorem iB {α : Type} {l r : List α} {x : α} {i : Nat} (h : l.drop i = x :: r) : i < l.length := Nat.lt_of_not_le fun g => by rw [List.drop_eq_nil_of_le g] at h; cases h
theorem ye {a j L c d k : Nat} (h : a + c * (j + 1) + d < L) (hk : k ≤ c) : a + k + c * j + d < L :=
 Nat.lt_of_le_of_lt (Nat.add_le_add_right (by rw [Nat.add_assoc, Nat.add_comm k]; exact Nat.add_le_add_left (Nat.add_le_add_left hk _) a) d) h
noncomputable def dT : Nat → Nat → (LT' → Nat → Cert) → Cert
 | 0, _, _ => []
 | f + 1, c, k => bif Nat.beq (c % 32) 0 then dT f (c / 32) fun x r => dT f r fun y s => k (.a x y) s
  else bif Nat.beq (c % 32) 3 then dT f (c / 32) fun x r => k (.a x (.n 1)) r
  else bif Nat.beq (c % 32) 1 then k (.n (c / 1024 % 32 ^ (c / 32 % 32))) (c / 1024 / 32 ^ (c / 32 % 32))
  else bif Nat.beq (c % 32) 2 then dT f (c / 1024) fun x r => k (.m (c / 32 % 32) x) r
  else k (.v (c % 32 - 4)) (c / 32)
noncomputable def dR : Nat → Nat → Cert
 | 0, _ => []
 | f + 1, c => bif Nat.beq c 0 then [] else dT 12 (c / 32) fun x r => dT 12 r fun y s => (c % 32, x, y) :: dR f s
theorem lN (c : List Nat) (n : Nat) (h : (dR 20 n).ok = true) : Cert.den c (dR 20 n) False := yy c (dR 20 n) h
end Mine
end
noncomputable section
namespace Mine
open PySem
inductive V where
 | none
 | bool (b : Bool)
 | int (i : Int)
 | str (s : Str)
 | ref (a : Addr)
 | script
 | ty (n : String)
 | tup (vs : List V)
inductive AObj where
 | list (xs : List V)
 | dict (kvs : List (Str × V)) (ep : Nat)
 | idict (kvs : List (Int × V)) (ep : Nat)
 | inst (dx : Addr)
 | ns (fs : List (String × V))
abbrev ah := Addr → Option AObj
abbrev bb := String → Option V
noncomputable def aY (σ : ah) (a : Addr) (o : AObj) : ah := fun b => if b = a then some o else σ b
noncomputable def put (m : bb) (x : String) (v : V) : bb := fun y => bif y == x then some v else m y
@[simp] theorem an (σ : ah) (a : Addr) (o : AObj) : aY σ a o a = some o := by simp [aY]
theorem az {σ : ah} {a b : Addr} {o : AObj} (h : b ≠ a) : aY σ a o b = σ b := by simp [aY, h]
theorem r8 {σ : ah} {a b : Addr} {o o' : AObj} (ha : σ a = none) (hb : σ b = some o') : aY σ a o b = some o' := by
 rw [az (by rintro rfl; rw [ha] at hb; cases hb), hb]
@[simp low] theorem iT (m : bb) (x : String) (v : V) : put m x v x = some v := by simp [put]
theorem fF {m : bb} {x y : String} {v : V} (h : y ≠ x) : put m x v y = m y := by unfold put; rw [beq_false_of_ne h]; rfl
structure Cx where
 prog : Program
 w : World
 s₁ : Shared
 aS : Addr
 ns : List Int
 mg : Str → Option Value
 mb : Str → Option Value
 held : Option Addr := none
abbrev Cx.hB (C : Cx) : Heap := C.s₁.heap
structure Cx.Ok (C : Cx) : Prop where
 g : C.hB.Ns mainGlobals C.mg
 b : C.hB.Ns builtinsNs C.mb
 nolimit : C.hB.NoLimit
 mods : ∃ o, C.hB.get? sysModules = some o
 few : C.ns.length ≤ 63
 heldOk : ∀ e, C.held = some e → ∃ o vs, C.hB.get? e = some o ∧ o.data = .fields vs ∧ vs[2]? = some .none
 script : ∃ ws, C.hB.IsList C.aS ws ∧ ws.toList.length = C.ns.length ∧ ∀ (i : Nat) n, C.ns[i]? = some n → ∃ t, ws.toList[i]? = some (Value.int n t)
noncomputable def xQ (w : Value) : Bool := match w with | .none => false | .ref _ => false | _ => true
noncomputable def xh (ws : List Value) : Bool := match ws with | [] => true | w :: _ => xQ w
noncomputable def yx (v : V) : Bool := match v with | .bool _ => true | .int _ => true | .str _ => true | .ty _ => true | _ => false
noncomputable def uI (vs : List V) : Bool := match vs with | [] => true | v :: _ => yx v
theorem Cx.Ok.noMods {C : Cx} (O : C.Ok) {a : Addr} (h : C.hB.get? a = none) : (a == sysModules) = false := by
 obtain ⟨o, ho⟩ := O.mods
 simp only [beq_eq_false_iff_ne]
 rintro rfl
 rw [ho] at h; cases h
mutual
inductive VRel (aS : Addr) (h : Heap) : V → Value → Prop
 | none : VRel aS h .none .none
 | bool (b : Bool) : VRel aS h (.bool b) (.bool b)
 | int (i : Int) (t : Tok) : VRel aS h (.int i) (.int i t)
 | str (x : Str) (t : Tok) : VRel aS h (.str x) (.str x t)
 | ref (a : Addr) : VRel aS h (.ref a) (.ref a)
 | script : VRel aS h .script (.ref aS)
 | ty (n : String) : VRel aS h (.ty n) (.type n)
 | tup {vs : List V} {a : Addr} {ws : List Value} : h.IsTuple a ws.toArray → VRels aS h vs ws → xh ws = true → VRel aS h (.tup vs) (.ref a)
inductive VRels (aS : Addr) (h : Heap) : List V → List Value → Prop
 | nil : VRels aS h [] []
 | cons {v : V} {w : Value} {vs : List V} {ws : List Value} : VRel aS h v w → VRels aS h vs ws → VRels aS h (v :: vs) (w :: ws)
end
noncomputable def fU (o : Obj) : Prop := o.cls = .type "tuple" ∧ ∃ it n, o.data = .seq it n ∧ xh it.toList = true
noncomputable def a0 (h h' : Heap) : Prop := ∀ b o, h.get? b = some o → fU o → h'.get? b = some o
theorem VRel.keep {aS : Addr} {h h' : Heap} (k : a0 h h') {v : V} {w : Value} (x : VRel aS h v w) : VRel aS h' v w :=
 VRel.rec (motive_1 := fun v w _ => VRel aS h' v w) (motive_2 := fun vs ws _ => VRels aS h' vs ws) .none .bool .int .str .ref .script .ty (fun ht _ hb ih => .tup (let ⟨o, ho, hc, n, r⟩ := ht; ⟨o, k _ o ho ⟨hc, _, n, r, hb⟩, hc, n, r⟩) ih hb) .nil (fun _ _ a b => .cons a b) x
theorem VRels.inv0 {aS : Addr} {h : Heap} {ws : List Value} (x : VRels aS h [] ws) : ws = [] := by cases x; rfl
theorem VRels.invC {aS : Addr} {h : Heap} {a : V} {as : List V} {ws : List Value} (x : VRels aS h (a :: as) ws) : ∃ w ws', ws = w :: ws' ∧ VRel aS h a w ∧ VRels aS h as ws' := by
 cases x with
 | cons h1 r => exact ⟨_, _, rfl, h1, r⟩
theorem VRels.ind {aS : Addr} {h : Heap} {P : List V → List Value → Prop} (h0 : P [] []) (h1 : ∀ v w vs ws, VRel aS h v w → VRels aS h vs ws → P vs ws → P (v :: vs) (w :: ws)) {vs : List V} {ws : List Value} (x : VRels aS h vs ws) : P vs ws := by
 induction vs generalizing ws with
 | nil => rw [x.inv0]; exact h0
 | cons v vs ih => obtain ⟨w, ws, rfl, a, r⟩ := x.invC; exact h1 _ _ _ _ a r (ih r)
theorem VRels.keep {aS : Addr} {h h' : Heap} (k : a0 h h') {vs : List V} {ws : List Value} (x : VRels aS h vs ws) : VRels aS h' vs ws :=
 x.ind .nil fun _ _ _ _ a _ ih => .cons (a.keep k) ih
theorem tS {aS : Addr} {h : Heap} {vs : List V} {ws : List Value} (x : VRels aS h vs ws) (q : uI vs = true) : xh ws = true := by
 cases vs with
 | nil => rw [x.inv0]; rfl
 | cons v vs =>
  obtain ⟨w, ws, rfl, y, _⟩ := x.invC
  cases y <;> first | rfl | exact Bool.noConfusion q
theorem VRels.length {aS : Addr} {h : Heap} {vs : List V} {ws : List Value} (x : VRels aS h vs ws) : vs.length = ws.length :=
 x.ind (P := fun vs ws => vs.length = ws.length) rfl fun _ _ _ _ _ _ ih => congrArg (· + 1) ih
theorem VRels.get {aS : Addr} {h : Heap} {vs : List V} {ws : List Value} (x : VRels aS h vs ws) : ∀ {i : Nat} {v : V}, vs[i]? = some v → ∃ w, ws[i]? = some w ∧ VRel aS h v w :=
 x.ind (P := fun vs ws => ∀ {i : Nat} {v : V}, vs[i]? = some v → ∃ w, ws[i]? = some w ∧ VRel aS h v w) (fun e => by cases e) fun _ w _ _ a _ ih i _ e => by
  cases i with
  | zero => cases e; exact ⟨w, rfl, a⟩
  | succ i => exact ih e
theorem VRel.invStr {aS : Addr} {h : Heap} {x : Str} {w : Value} (r : VRel aS h (.str x) w) : ∃ t, w = .str x t := by cases r; exact ⟨_, rfl⟩
theorem VRel.invInt {aS : Addr} {h : Heap} {x : Int} {w : Value} (r : VRel aS h (.int x) w) : ∃ t, w = .int x t := by cases r; exact ⟨_, rfl⟩
theorem VRels.append {aS : Addr} {h : Heap} {vs vs' : List V} {ws ws' : List Value} (x : VRels aS h vs ws) (y : VRels aS h vs' ws') : VRels aS h (vs ++ vs') (ws ++ ws') :=
 x.ind (P := fun vs ws => VRels aS h (vs ++ vs') (ws ++ ws')) y fun _ _ _ _ a _ ih => .cons a ih
noncomputable def PRel {K : Type} (aS : Addr) (h : Heap) : List (K × V) → List (K × Value) → Prop
 | [], [] => True
 | (k, v) :: r, (k', w) :: r' => k = k' ∧ VRel aS h v w ∧ PRel aS h r r'
 | _, _ => False
theorem PRel.ind {K : Type} {aS : Addr} {h : Heap} {P : List (K × V) → List (K × Value) → Prop} (h0 : P [] []) (h1 : ∀ k v w r r', VRel aS h v w → PRel aS h r r' → P r r' → P ((k, v) :: r) ((k, w) :: r')) {a : List (K × V)} {b : List (K × Value)} (x : PRel aS h a b) : P a b := by
 induction a generalizing b with
 | nil => cases b with
  | nil => exact h0
  | cons _ _ => exact False.elim x
 | cons p a ih => cases b with
  | nil => exact False.elim x
  | cons q b =>
   obtain ⟨k, v⟩ := p
   obtain ⟨k', w⟩ := q
   have y : k = k' ∧ VRel aS h v w ∧ PRel aS h a b := x
   obtain ⟨rfl, y, r⟩ := y
   exact h1 _ _ _ _ _ y r (ih r)
theorem PRel.keep {K : Type} {aS : Addr} {h h' : Heap} (k : a0 h h') {a : List (K × V)} {b : List (K × Value)} (x : PRel aS h a b) : PRel aS h' a b :=
 x.ind trivial fun _ _ _ _ _ v _ ih => ⟨rfl, v.keep k, ih⟩
theorem PRel.length {K : Type} {aS : Addr} {h : Heap} {a : List (K × V)} {b : List (K × Value)} (x : PRel aS h a b) : a.length = b.length :=
 x.ind (P := fun a b => a.length = b.length) rfl fun _ _ _ _ _ _ _ ih => congrArg (· + 1) ih
theorem PRel.get {K : Type} {aS : Addr} {h : Heap} {a : List (K × V)} {b : List (K × Value)} (x : PRel aS h a b) : ∀ {i : Nat} {k : K} {v : V}, a[i]? = some (k, v) → ∃ w, b[i]? = some (k, w) ∧ VRel aS h v w :=
 x.ind (P := fun a b => ∀ {i : Nat} {k : K} {v : V}, a[i]? = some (k, v) → ∃ w, b[i]? = some (k, w) ∧ VRel aS h v w) (fun e => by simp at e) fun _ _ w _ _ hv _ ih i _ _ e => by
  cases i with
  | zero => cases e; exact ⟨w, rfl, hv⟩
  | succ i => exact ih e
noncomputable def ObjRel (C : Cx) (h : Heap) (a : Addr) : AObj → Prop
 | .list xs => xs.length ≤ 16777216 ∧ ∃ ws : List Value, h.PlainList a ws.toArray ∧ VRels C.aS h xs ws
 | .dict kvs ep => kvs.length ≤ 16777216 ∧ ∃ kws, h.DictAt (strKind C.prog C.w) a kws ep ∧ PRel C.aS h kvs kws
 | .idict kvs ep => kvs.length ≤ 16777216 ∧ ∃ kws, h.DictAt (intKind C.prog C.w) a kws ep ∧ PRel C.aS h kvs kws
 | .inst dx => ∃ cl, C.mg (Str.ofString "Book") = some (.ref cl) ∧ dx ≠ a ∧ h.get? a = some { cls := .ref cl, dict := some dx, data := .plain }
 | .ns fs => fs.length ≤ 1000 ∧ ∃ mA : Str → Option Value, h.Ns1 a mA ∧ (∀ x v, fs.lookup x = some v → ∃ w, mA (Str.ofString x) = some w ∧ VRel C.aS h v w) ∧ ∀ y : Str, (∀ q ∈ fs, y ≠ Str.ofString q.1) → mA y = none
theorem ObjRel.keep {C : Cx} {h h' : Heap} {a : Addr} {o : AObj} (x : ObjRel C h a o) (k : a0 h h') (ka : ∀ o, h.get? a = some o → h'.get? a = some o) : ObjRel C h' a o := by
 cases o with
 | list xs => obtain ⟨hz, ws, h1, h2⟩ := x; exact ⟨hz, ws, h1.at ka, h2.keep k⟩
 | dict kvs ep => obtain ⟨hz, ws, h1, h2⟩ := x; exact ⟨hz, ws, h1.at' ka, h2.keep k⟩
 | idict kvs ep => obtain ⟨hz, ws, h1, h2⟩ := x; exact ⟨hz, ws, h1.at' ka, h2.keep k⟩
 | inst dx => obtain ⟨cl, h1, h2, h3⟩ := x; exact ⟨cl, h1, h2, ka _ h3⟩
 | ns fs => obtain ⟨hz, mA, h1, h2, h3⟩ := x; exact ⟨hz, mA, h1.at ka, fun y v e => let ⟨w, a, b⟩ := h2 y v e; ⟨w, a, b.keep k⟩, h3⟩
theorem ObjRel.shape {C : Cx} {h : Heap} {a : Addr} {o : AObj} (x : ObjRel C h a o) : ∃ ob, h.get? a = some ob ∧ ¬ fU ob ∧ ∀ v, ob.data ≠ .cell v := by
 cases o with
 | list xs => obtain ⟨_, ws, ⟨n, h1⟩, h2⟩ := x; exact ⟨_, h1, by simp [fU], by simp⟩
 | dict kvs ep => obtain ⟨_, ws, ⟨o, es, ho, hc, hd, _⟩, h2⟩ := x; exact ⟨o, ho, by simp [fU, hd], by rw [hd]; simp⟩
 | idict kvs ep => obtain ⟨_, ws, ⟨o, es, ho, hc, hd, _⟩, h2⟩ := x; exact ⟨o, ho, by simp [fU, hd], by rw [hd]; simp⟩
 | inst dx => obtain ⟨cl, h1, h2, h3⟩ := x; exact ⟨_, h3, by simp [fU], by simp⟩
 | ns fs => obtain ⟨_, mA, ⟨o, es, ep, ho, hd, _⟩, h2⟩ := x; exact ⟨o, ho, by simp [fU, hd], by rw [hd]; simp⟩
structure RelG (C : Cx) (σ : ah) (s : Shared) : Prop where
 rest : ∃ h tk d, s = { C.s₁ with heap := h, toks := tk, drawn := d }
 base : ∀ b o, C.hB.get? b = some o → s.heap.get? b = some o
 view : ∀ a o, σ a = some o → ObjRel C s.heap a o
 apart : ∀ a, σ a ≠ none → C.hB.get? a = none
noncomputable def Like (o o' : Obj) : Prop := o' = o ∨ ((∃ es ep, o.data = .dict es ep) ∧ ∃ sl, o' = { o with slots := sl })
theorem Like.refl (o : Obj) : Like o o := .inl rfl
theorem Like.trans {a b c : Obj} (x : Like a b) (y : Like b c) : Like a c := by
 rcases x with rfl | ⟨⟨es, ep, hd⟩, sl, rfl⟩
 ·exact y
 ·rcases y with rfl | ⟨_, sl', rfl⟩
  ·exact .inr ⟨⟨es, ep, hd⟩, sl, rfl⟩
  ·exact .inr ⟨⟨es, ep, hd⟩, sl', rfl⟩
theorem Like.ns {h h' : Heap} {a : Addr} {m : Str → Option Value} (hn : h.Ns a m) (k : ∀ o, h.get? a = some o → ∃ o', h'.get? a = some o' ∧ Like o o') : h'.Ns a m := by
 obtain ⟨o, es, ep, ho, hd, r⟩ := hn
 obtain ⟨o', ho', hl⟩ := k o ho
 rcases hl with rfl | ⟨_, sl, rfl⟩
 ·exact ⟨_, es, ep, ho', hd, r⟩
 ·exact ⟨_, es, ep, ho', hd, r⟩
structure Step (own : Addr → Prop) (σ σ' : ah) (h h' : Heap) : Prop where
 keepL : ∀ b o, h.get? b = some o → σ b = none → ¬ own b → ∃ o', h'.get? b = some o' ∧ Like o o'
 size : h.objs.size ≤ h'.objs.size
 new : ∀ b, σ b = none → σ' b ≠ none → h.objs.size ≤ b
noncomputable def no : Addr → Prop := fun _ => False
theorem Step.of {own : Addr → Prop} {σ σ' : ah} {h h' : Heap} (k : ∀ b o, h.get? b = some o → σ b = none → ¬ own b → h'.get? b = some o) (size : h.objs.size ≤ h'.objs.size) (new : ∀ b, σ b = none → σ' b ≠ none → h.objs.size ≤ b) : Step own σ σ' h h' :=
 ⟨fun b o e n q => ⟨o, k b o e n q, Like.refl o⟩, size, new⟩
theorem Step.keep {own : Addr → Prop} {σ σ' : ah} {h h' : Heap} (x : Step own σ σ' h h') (b : Addr) (o : Obj) (e : h.get? b = some o) (n : σ b = none) (q : ¬ own b) (hd : ∀ es ep, o.data ≠ .dict es ep) : h'.get? b = some o := by
 obtain ⟨o', h1, h2⟩ := x.keepL b o e n q
 rcases h2 with rfl | ⟨⟨es, ep, z⟩, _⟩
 ·exact h1
 ·exact absurd z (hd es ep)
theorem Step.mono {own own' : Addr → Prop} {σ σ' : ah} {h h' : Heap} (x : Step own σ σ' h h') (k : ∀ b o, h.get? b = some o → own b → own' b) : Step own' σ σ' h h' :=
 ⟨fun b o e n q => x.keepL b o e n fun z => q (k b o e z), x.size, x.new⟩
theorem RelG.dom {C : Cx} {σ : ah} {s : Shared} (R : RelG C σ s) : ∀ b, σ b ≠ none → s.heap.get? b ≠ none := fun b hb => by
 cases e : σ b with
 | none => exact absurd e hb
 | some o => obtain ⟨ob, h1, _⟩ := (R.view b o e).shape; rw [h1]; simp
theorem Step.refl {own : Addr → Prop} {σ : ah} {h : Heap} : Step own σ σ h h :=
 .of (fun _ _ e _ _ => e) (Nat.le_refl _) fun _ h h' => absurd h h'
theorem Step.trans {own : Addr → Prop} {σ₁ σ₂ σ₃ : ah} {h₁ h₂ h₃ : Heap} (x : Step own σ₁ σ₂ h₁ h₂) (y : Step own σ₂ σ₃ h₂ h₃) : Step own σ₁ σ₃ h₁ h₃ where
 keepL := fun b o e n q => by
  obtain ⟨o', h1, h2⟩ := x.keepL b o e n q
  obtain ⟨o'', h3, h4⟩ := y.keepL b o' h1 (by
   cases z : σ₂ b with
   | none => rfl
   | some o' => have := x.new b n (by rw [z]; simp); exact absurd (Heap.lt_size e) (Nat.not_lt.mpr this)) q
  exact ⟨o'', h3, h2.trans h4⟩
 size := Nat.le_trans x.size y.size
 new := fun b n m => by
  cases z : σ₂ b with
  | some o' => exact x.new b n (by rw [z]; simp)
  | none => exact Nat.le_trans x.size (y.new b z m)
theorem Step.tups {C : Cx} {own : Addr → Prop} {σ σ' : ah} {s : Shared} {h' : Heap} (R : RelG C σ s) (x : Step own σ σ' s.heap h') (ho : ∀ b o, own b → s.heap.get? b = some o → ¬ fU o) : a0 s.heap h' := fun b o e hc =>
 x.keep b o e (by
  cases z : σ b with
  | none => rfl
  | some o' => obtain ⟨ob, h1, h2, _⟩ := (R.view b o' z).shape; rw [e] at h1; cases h1; exact absurd hc h2) (fun z => ho b o z e hc) (fun es ep z => by obtain ⟨_, it, n, hd, _⟩ := hc; rw [hd] at z; cases z)
theorem Step.tupsN {C : Cx} {σ σ' : ah} {s : Shared} {h' : Heap} (R : RelG C σ s) (x : Step no σ σ' s.heap h') : a0 s.heap h' := x.tups R fun _ _ z => z.elim
theorem RelG.grow {C : Cx} {σ : ah} {s : Shared} {h' : Heap} {tk : Nat} (R : RelG C σ s) (k : ∀ b o, s.heap.get? b = some o → h'.get? b = some o) : RelG C σ { s with heap := h', toks := tk } where
 rest := let ⟨_, _, d, e⟩ := R.rest; ⟨h', tk, d, by rw [e]⟩
 base := fun b o e => k b o (R.base b o e)
 view := fun a o e => (R.view a o e).keep (fun b o e _ => k b o e) fun o e => k a o e
 apart := R.apart
theorem Step.grow {own : Addr → Prop} {σ : ah} {h h' : Heap} (k : ∀ b o, h.get? b = some o → h'.get? b = some o) (z : h.objs.size ≤ h'.objs.size) : Step own σ σ h h' :=
 .of (fun b o e _ _ => k b o e) z fun _ h h' => absurd h h'
theorem Step.push {own : Addr → Prop} {σ : ah} {h : Heap} {o : Obj} : Step own σ σ h (h.push o) := .grow (fun _ _ e => Heap.get?_push_of_some _ e) (by rw [Heap.size_push]; exact Nat.le_succ _)
theorem RelG.draw {C : Cx} {σ : ah} {s : Shared} (R : RelG C σ s) (d : Drawn) : RelG C σ { s with drawn := d } where
 rest := let ⟨h, tk, _, e⟩ := R.rest; ⟨h, tk, d, by rw [e]⟩
 base := R.base
 view := R.view
 apart := R.apart
theorem RelG.tok {C : Cx} {σ : ah} {s : Shared} (R : RelG C σ s) (tk : Nat) : RelG C σ { s with toks := tk } := R.grow fun _ _ e => e
theorem RelG.freshNone {C : Cx} {σ : ah} {s : Shared} (R : RelG C σ s) {a : Addr} (h : s.heap.get? a = none) : σ a = none := by
 cases e : σ a with
 | none => rfl
 | some o => exact absurd h (R.dom a (by rw [e]; simp))
theorem bC (h : Heap) : h.get? h.objs.size = none := by
 cases e : h.get? h.objs.size with
 | none => rfl
 | some o => exact absurd (Heap.lt_size e) (Nat.lt_irrefl _)
theorem RelG.baseNone {C : Cx} {σ : ah} {s : Shared} (R : RelG C σ s) {a : Addr} (h : s.heap.get? a = none) : C.hB.get? a = none := by
 cases e : C.hB.get? a with
 | none => rfl
 | some o => rw [R.base a o e] at h; cases h
theorem RelG.add {C : Cx} {σ : ah} {s : Shared} {h' : Heap} {tk : Nat} {a : Addr} {o : AObj} (R : RelG C σ s) (k : ∀ b o, s.heap.get? b = some o → h'.get? b = some o) (hn : s.heap.get? a = none) (ho : ObjRel C h' a o) :
  RelG C (aY σ a o) { s with heap := h', toks := tk } where
 rest := (R.grow (tk := tk) k).rest
 base := (R.grow (tk := tk) k).base
 view := fun b o' e => by
  by_cases hb : b = a
  ·subst hb; rw [an] at e; cases e; exact ho
  ·rw [az hb] at e; exact (R.grow (tk := tk) k).view b o' e
 apart := fun b hb => by
  by_cases q : b = a
  ·subst q; exact R.baseNone hn
  ·rw [az q] at hb; exact R.apart b hb
theorem Step.add {own : Addr → Prop} {σ : ah} {h h' : Heap} {a : Addr} {o : AObj} (k : ∀ b o, h.get? b = some o → h'.get? b = some o) (z : h.objs.size ≤ h'.objs.size) (hn : h.objs.size ≤ a) : Step own σ (aY σ a o) h h' :=
 .of (fun b o e _ _ => k b o e) z fun b n m => by
  by_cases q : b = a
  ·subst q; exact hn
  ·rw [az q] at m; exact absurd n m
theorem Step.addPush {own : Addr → Prop} {σ : ah} {h : Heap} {ob : Obj} {o : AObj} : Step own σ (aY σ h.objs.size o) h (h.push ob) := .add (fun _ _ e => Heap.get?_push_of_some _ e) (by rw [Heap.size_push]; exact Nat.le_succ _) (Nat.le_refl _)
theorem RelG.change {C : Cx} {σ : ah} {s : Shared} {h' : Heap} {tk : Nat} {a : Addr} {o o' : AObj} (R : RelG C σ s) (ha : σ a = some o) (k : Heap.SameBut a s.heap h') (ho : ObjRel C h' a o') : RelG C (aY σ a o') { s with heap := h', toks := tk } where
 rest := let ⟨_, _, d, e⟩ := R.rest; ⟨h', tk, d, by rw [e]⟩
 base := fun b o e => (k.2 b (by rintro rfl; rw [R.apart b (by rw [ha]; simp)] at e; cases e)).trans (R.base b o e)
 view := fun b o₂ e => by
  by_cases hb : b = a
  ·subst hb; rw [an] at e; cases e; exact ho
  ·rw [az hb] at e
   refine (R.view b o₂ e).keep (fun c oc ec hc => ?_) fun oc ec => (k.2 b hb).trans ec
   exact (k.2 c (by rintro rfl; obtain ⟨ob, h1, h2, _⟩ := (R.view c o ha).shape; rw [ec] at h1; cases h1; exact h2 hc)).trans ec
 apart := fun b hb => by
  by_cases q : b = a
  ·subst q; exact R.apart b (by rw [ha]; simp)
  ·rw [az q] at hb; exact R.apart b hb
theorem Step.change {own : Addr → Prop} {σ : ah} {h h' : Heap} {a : Addr} {o o' : AObj} (ha : σ a = some o) (k : Heap.SameBut a h h') : Step own σ (aY σ a o') h h' :=
 .of (fun b o₂ e n _ => (k.2 b (by rintro rfl; rw [ha] at n; cases n)).trans e) (Nat.le_of_eq k.1.symm)
   fun b n m => by
  by_cases q : b = a
  ·subst q; rw [ha] at n; cases n
  ·rw [az q] at m; exact absurd n m
theorem aA {h : Heap} {a : Addr} (q : h.objs.size ≤ a) : h.get? a = none := by
 cases e : h.get? a with
 | none => rfl
 | some o => exact absurd (Heap.lt_size e) (Nat.not_lt.mpr q)
theorem gC {M : Model} {Γ : Ctx} {p : Pos} {t : Sem Fin} {fs : List Frame} {s s' : Shared} {e : End} (h : Runs M Γ p t fs s e s') : s.heap.objs.size ≤ s'.heap.objs.size := by
 induction h <;> (try simp only [Shared.setGen, Heap.size_push, Heap.size_after_update] at *) <;> omega
theorem na {M : Model} {Γ : Ctx} {p : Pos} {g : Nat} {r : Resume} {s s' : Shared} {res : GenResult} (h : Wakes M Γ p g r s res s') : s.heap.objs.size ≤ s'.heap.objs.size := by
 unfold Wakes at h
 split at h
 ·exact h.elim
 ·split at h
  ·obtain ⟨e₁, s₁, hr, _, _, rfl⟩ := h; exact (gC hr : (s.setGen g .running).heap.objs.size ≤ s₁.heap.objs.size)
  ·rw [h.2]; exact Nat.le_refl _
  ·rw [h.2]; exact Nat.le_refl _
 ·obtain ⟨e₁, s₁, hr, _, _, rfl⟩ := h; exact (gC hr : (s.setGen g .running).heap.objs.size ≤ s₁.heap.objs.size)
 ·rw [h.2]; exact Nat.le_refl _
 ·rw [h.2]; exact Nat.le_refl _
theorem r7 {α : Type} (M : Model) (Γ : Ctx) (n : Nat) (t : Sem α) : ∀ (Q : α → Pos → Shared → Prop) (E : Value → Pos → Shared → Prop) (p : Pos) (s : Shared), n ≤ s.heap.objs.size → Sem.wp M Γ t Q E p s →
  Sem.wp M Γ t (fun a p' s' => n ≤ s'.heap.objs.size ∧ Q a p' s') (fun e p' s' => n ≤ s'.heap.objs.size ∧ E e p' s') p s := by
 induction t with
 | pure a | raise a => intro Q E p s hn h; exact ⟨hn, h⟩
 | unsupported | finish | register | yield | fork | await => intro Q E p s _ h; exact h
 | rule _ k ih | «at» _ k ih | point _ k ih | ask k ih | handled _ k ih | stack k ih | thread k ih | loadIfAlive _ k ih | fresh k ih | os _ _ k ih | newGen _ k ih => intro Q E p s hn h; exact ih _ Q E _ _ hn h
 | load a _ k ih => intro Q E p s hn h; obtain ⟨o, ho, h⟩ := h; exact ⟨o, ho, ih o Q E p s hn h⟩
 | update a _ f k ih => intro Q E p s hn h; exact ⟨h.1, ih () Q E p _ (by simpa using hn) h.2⟩
 | alloc o k ih => intro Q E p s hn h; exact ih _ Q E p _ (by simp; omega) h
 | choose src m k ih => intro Q E p s hn h; exact ⟨h.1, ih _ Q E p _ hn h.2⟩
 | call c hd _ _ k ih => intro Q E p s hn h; obtain ⟨r, s', hr, h⟩ := h; exact ⟨r, s', hr, ih r Q E p s' (Nat.le_trans hn (gC hr)) h⟩
 | genState g k ih => intro Q E p s hn h; obtain ⟨st, hs, h⟩ := h; exact ⟨st, hs, ih _ Q E p s hn h⟩
 | resume g r _ k ih => intro Q E p s hn h; obtain ⟨res, s', hw, h⟩ := h; exact ⟨res, s', hw, ih res Q E p s' (Nat.le_trans hn (na hw)) h⟩
theorem be {α : Type} {M : Model} {A : Around} {s : Shared} {t : Sem α} {Q : α → Shared → Prop} {E : Value → Shared → Prop}
  (h : wpAny M A t (fun a s' => s.heap.objs.size ≤ s'.heap.objs.size → Q a s') E s) : wpAny M A t Q E s :=
 fun Γ p hΓ => Sem.wp_mono M Γ t (fun _ _ _ x => x.2 x.1) (fun _ _ _ x => x.2) p s (r7 M Γ _ t _ _ p s (Nat.le_refl _) (h Γ p hΓ))
noncomputable def yB (σ : ah) (a : Addr) : ah := fun b => if b = a then none else σ b
end Mine
end
noncomputable section
namespace Mine
open PySem
noncomputable def kh (env : Env) (b : Addr) : Prop := b = env.locals ∨ ∃ n, env.cells.lookup n = some b
structure FrameRel (C : Cx) (env : Env) (m : bb) (σ : ah) (h : Heap) : Prop where
 ns : ∃ mm, h.Ns env.locals mm ∧ ∀ x v, m x = some v → env.kindOf (Str.ofString x) = some .local → ∃ w, mm (Str.ofString x) = some w ∧ VRel C.aS h v w
 cel : ∀ x v, m x = some v → env.kindOf (Str.ofString x) = some .local ∨
  ((env.kindOf (Str.ofString x) = some .cell ∨ env.kindOf (Str.ofString x) = some .free) ∧ ∃ c w, env.cells.lookup (Str.ofString x) = some c ∧ h.IsCell c (some w) ∧ VRel C.aS h v w)
 cells : ∀ n c, env.cells.lookup n = some c → ∃ v, h.IsCell c v
 sepL : σ env.locals = none
 baseL : C.hB.get? env.locals = none
 baseC : ∀ n c, env.cells.lookup n = some c → C.hB.get? c = none
 dist : env.cells.Pairwise fun x y => x.2 ≠ y.2
 has : ∀ n, env.kindOf n = some .cell ∨ env.kindOf n = some .free → ∃ c, env.cells.lookup n = some c
theorem FrameRel.step {C : Cx} {env : Env} {m : bb} {σ σ' : ah} {s : Shared} {h' : Heap} (F : FrameRel C env m σ s.heap) (R : RelG C σ s) (S : Step no σ σ' s.heap h') : FrameRel C env m σ' h' := by
 have kt := S.tupsN R
 have kc : ∀ c v, s.heap.IsCell c v → h'.IsCell c v := fun c v ⟨o, ho, hd⟩ => ⟨o, S.keep c o ho (by
  cases z : σ c with
  | none => rfl
  | some o' => obtain ⟨ob, h1, _, h3⟩ := (R.view c o' z).shape; rw [ho] at h1; cases h1; exact absurd hd (h3 v)) (fun z => z) (fun es ep z => by rw [hd] at z; cases z), hd⟩
 obtain ⟨mm, hn, hv⟩ := F.ns
 have hl : ∃ o, s.heap.get? env.locals = some o := let ⟨o, _, _, ho, _⟩ := hn; ⟨o, ho⟩
 refine ⟨⟨mm, Like.ns hn fun o e => S.keepL _ o e F.sepL (fun z => z), fun x v e k => ?_⟩, fun x v e => ?_, fun n c e => ?_, ?_, F.baseL, F.baseC, F.dist, F.has⟩
 ·obtain ⟨w, h1, h2⟩ := hv x v e k; exact ⟨w, h1, h2.keep kt⟩
 ·rcases F.cel x v e with q | ⟨q, c, w, h1, h2, h3⟩
  ·exact .inl q
  ·exact .inr ⟨q, c, w, h1, kc _ _ h2, h3.keep kt⟩
 ·obtain ⟨v, hv⟩ := F.cells n c e; exact ⟨v, kc _ _ hv⟩
 ·cases z : σ' env.locals with
  | none => rfl
  | some o => obtain ⟨ol, hol⟩ := hl; have := S.new env.locals F.sepL (by rw [z]; simp); exact absurd (Heap.lt_size hol) (Nat.not_lt.mpr this)
structure AOk (C : Cx) (A : Around) (k : Nat) : Prop where
 handled : A.handled = C.held.map Value.ref
 depth : A.depth + 3 * k + 3 < recursionLimit
 units : A.units + 10 * k + 20 < cLine
theorem AOk.le {C : Cx} {A : Around} {k j : Nat} (x : AOk C A k) (h : j ≤ k) : AOk C A j := ⟨x.handled, Nat.lt_of_le_of_lt (Nat.add_le_add_right (Nat.add_le_add_left (Nat.mul_le_mul_left 3 h) _) _) x.depth, Nat.lt_of_le_of_lt (Nat.add_le_add_right (Nat.add_le_add_left (Nat.mul_le_mul_left 10 h) _) _) x.units⟩
theorem AOk.none {C : Cx} {A : Around} {k : Nat} (x : AOk C A k) (hp : C.held = none) : A.handled = none := by rw [x.handled, hp]; rfl
structure EnvOk (env : Env) (sc : Scope) : Prop where
 scope : env.scope = sc
 kind : sc.kind = .function
 globals : env.globals = mainGlobals
 builtins : env.builtins = builtinsNs
theorem EnvOk.k {env : Env} {sc : Scope} (e : EnvOk env sc) : env.scope.kind = .function := by rw [e.scope]; exact e.kind
theorem EnvOk.of {env : Env} {sc : Scope} (e : EnvOk env sc) {x : Str} {n : Option NameKind} (h : sc.names.lookup x = n) : env.kindOf x = n := by unfold Env.kindOf; rw [e.scope]; exact h
abbrev ET := bb → ah → (V → ah → Prop) → Prop
abbrev BT := bb → ah → (Bool → ah → Prop) → Prop
abbrev LT := bb → ah → (List V → ah → Prop) → Prop
structure HE (C : Cx) (sc : Scope) (k : Nat) (e : Expr) (T : ET) : Prop where
 run : ∀ (env : Env) (A : Around) (s : Shared) (m : bb) (σ : ah) (Q : V → ah → Prop) (P : Value → Shared → Prop) (E : Value → Shared → Prop),
  EnvOk env sc → AOk C A k → RelG C σ s → FrameRel C env m σ s.heap → T m σ Q →
  (∀ v w σ' s', VRel C.aS s'.heap v w → RelG C σ' s' → Step no σ σ' s.heap s'.heap → Q v σ' → P w s') →
  wpAny (model C.prog C.w) A (eval e env) P E s
structure HB (C : Cx) (sc : Scope) (k : Nat) (e : Expr) (T : BT) : Prop where
 run : ∀ (env : Env) (A : Around) (s : Shared) (m : bb) (σ : ah) (Q : Bool → ah → Prop) (P : Bool → Shared → Prop) (E : Value → Shared → Prop),
  EnvOk env sc → AOk C A k → RelG C σ s → FrameRel C env m σ s.heap → T m σ Q →
  (∀ b σ' s', RelG C σ' s' → Step no σ σ' s.heap s'.heap → Q b σ' → P b s') →
  wpAny (model C.prog C.w) A (isTrue e env (eval e env)) P E s
structure HL (C : Cx) (sc : Scope) (k : Nat) (es : List Expr) (T : LT) : Prop where
 run : ∀ (env : Env) (A : Around) (s : Shared) (m : bb) (σ : ah) (pos : Pos) (Q : List V → ah → Prop) (P : List Value → Shared → Prop) (E : Value → Shared → Prop),
  EnvOk env sc → AOk C A k → RelG C σ s → FrameRel C env m σ s.heap → T m σ Q →
  (∀ vs ws σ' s', VRels C.aS s'.heap vs ws → RelG C σ' s' → Step no σ σ' s.heap s'.heap → Q vs σ' → P ws s') →
  wpAny (model C.prog C.w) A (spliced (backTo pos (starEach es env))) P E s
section
variable {C : Cx} {sc : Scope} {k : Nat}
noncomputable def atK {α : Type} (o : Option α) (F : α → Prop) : Prop := match o with | some v => F v | none => False
theorem atK.elim {α : Type} {o : Option α} {F : α → Prop} (h : atK o F) : ∃ v, o = some v ∧ F v := by
 cases o with
 | none => exact False.elim h
 | some v => exact ⟨v, rfl, h⟩
noncomputable def isB (v : V) (F : Bool → Prop) : Prop := match v with | .bool b => F b | _ => False
theorem isB.elim {v : V} {F : Bool → Prop} (h : isB v F) : ∃ b, v = .bool b ∧ F b := by
 cases v <;> first | exact False.elim h | exact ⟨_, rfl, h⟩
noncomputable def on1 (vs : List V) (F : V → Prop) : Prop := match vs with | [a] => F a | _ => False
theorem on1.elim {vs : List V} {F : V → Prop} (h : on1 vs F) : ∃ a, vs = [a] ∧ F a := by
 rcases vs with _ | ⟨a, _ | ⟨b, r⟩⟩
 ·exact False.elim h
 ·exact ⟨a, rfl, h⟩
 ·exact False.elim h
noncomputable def on2 (vs : List V) (F : V → V → Prop) : Prop := match vs with | a :: r => on1 r (F a) | _ => False
theorem on2.elim {vs : List V} {F : V → V → Prop} (h : on2 vs F) : ∃ a b, vs = [a, b] ∧ F a b := by
 rcases vs with _ | ⟨a, r⟩
 ·exact False.elim h
 ·obtain ⟨b, rfl, h⟩ := on1.elim h; exact ⟨a, b, rfl, h⟩
noncomputable def isS (v : V) (F : Str → Prop) : Prop := match v with | .str x => F x | _ => False
theorem isS.elim {v : V} {F : Str → Prop} (h : isS v F) : ∃ x, v = .str x ∧ F x := by
 cases v <;> first | exact False.elim h | exact ⟨_, rfl, h⟩
noncomputable def isI (v : V) (F : Int → Prop) : Prop := match v with | .int x => F x | _ => False
theorem isI.elim {v : V} {F : Int → Prop} (h : isI v F) : ∃ x, v = .int x ∧ F x := by
 cases v <;> first | exact False.elim h | exact ⟨_, rfl, h⟩
noncomputable def isR (v : V) (F : Addr → Prop) : Prop := match v with | .ref x => F x | _ => False
theorem isR.elim {v : V} {F : Addr → Prop} (h : isR v F) : ∃ x, v = .ref x ∧ F x := by
 cases v <;> first | exact False.elim h | exact ⟨_, rfl, h⟩
noncomputable def isT (v : V) (F : String → Prop) : Prop := match v with | .ty x => F x | _ => False
theorem isT.elim {v : V} {F : String → Prop} (h : isT v F) : ∃ x, v = .ty x ∧ F x := by
 cases v <;> first | exact False.elim h | exact ⟨_, rfl, h⟩
noncomputable def onR (vs : List V) (F : Addr → Prop) : Prop := on1 vs fun a => isR a fun x => F x
theorem onR.elim {vs : List V} {F : Addr → Prop} (h : onR vs F) : ∃ x, vs = [.ref x] ∧ F x := by
 obtain ⟨a, rfl, h⟩ := on1.elim h
 obtain ⟨x, rfl, h⟩ := isR.elim h
 exact ⟨x, rfl, h⟩
noncomputable def onI (vs : List V) (F : Int → Prop) : Prop := on1 vs fun a => isI a fun x => F x
theorem onI.elim {vs : List V} {F : Int → Prop} (h : onI vs F) : ∃ x, vs = [.int x] ∧ F x := by
 obtain ⟨a, rfl, h⟩ := on1.elim h
 obtain ⟨x, rfl, h⟩ := isI.elim h
 exact ⟨x, rfl, h⟩
noncomputable def onRS (vs : List V) (F : Addr → Str → Prop) : Prop := on2 vs fun a b => isR a fun x => isS b fun y => F x y
theorem onRS.elim {vs : List V} {F : Addr → Str → Prop} (h : onRS vs F) : ∃ x y, vs = [.ref x, .str y] ∧ F x y := by
 obtain ⟨a, b, rfl, h⟩ := on2.elim h
 obtain ⟨x, rfl, h⟩ := isR.elim h
 obtain ⟨y, rfl, h⟩ := isS.elim h
 exact ⟨x, y, rfl, h⟩
noncomputable def onSS (vs : List V) (F : Str → Str → Prop) : Prop := on2 vs fun a b => isS a fun x => isS b fun y => F x y
theorem onSS.elim {vs : List V} {F : Str → Str → Prop} (h : onSS vs F) : ∃ x y, vs = [.str x, .str y] ∧ F x y := by
 obtain ⟨a, b, rfl, h⟩ := on2.elim h
 obtain ⟨x, rfl, h⟩ := isS.elim h
 obtain ⟨y, rfl, h⟩ := isS.elim h
 exact ⟨x, y, rfl, h⟩
noncomputable def onII (vs : List V) (F : Int → Int → Prop) : Prop := on2 vs fun a b => isI a fun x => isI b fun y => F x y
theorem onII.elim {vs : List V} {F : Int → Int → Prop} (h : onII vs F) : ∃ x y, vs = [.int x, .int y] ∧ F x y := by
 obtain ⟨a, b, rfl, h⟩ := on2.elim h
 obtain ⟨x, rfl, h⟩ := isI.elim h
 obtain ⟨y, rfl, h⟩ := isI.elim h
 exact ⟨x, y, rfl, h⟩
noncomputable def onSR (vs : List V) (F : Str → Addr → Prop) : Prop := on2 vs fun a b => isS a fun x => isR b fun y => F x y
theorem onSR.elim {vs : List V} {F : Str → Addr → Prop} (h : onSR vs F) : ∃ x y, vs = [.str x, .ref y] ∧ F x y := by
 obtain ⟨a, b, rfl, h⟩ := on2.elim h
 obtain ⟨x, rfl, h⟩ := isS.elim h
 obtain ⟨y, rfl, h⟩ := isR.elim h
 exact ⟨x, y, rfl, h⟩
noncomputable def onRV (vs : List V) (F : Addr → V → Prop) : Prop := on2 vs fun a b => isR a fun x => F x b
theorem onRV.elim {vs : List V} {F : Addr → V → Prop} (h : onRV vs F) : ∃ x y, vs = [.ref x, y] ∧ F x y := by
 obtain ⟨a, b, rfl, h⟩ := on2.elim h
 obtain ⟨x, rfl, h⟩ := isR.elim h
 exact ⟨x, b, rfl, h⟩
noncomputable def onVT (vs : List V) (F : V → String → Prop) : Prop := on2 vs fun a b => isT b fun y => F a y
theorem onVT.elim {vs : List V} {F : V → String → Prop} (h : onVT vs F) : ∃ x y, vs = [x, .ty y] ∧ F x y := by
 obtain ⟨a, b, rfl, h⟩ := on2.elim h
 obtain ⟨y, rfl, h⟩ := isT.elim h
 exact ⟨a, y, rfl, h⟩
noncomputable def ae (x : String) : ET := fun m σ Q => atK (m x) fun v => Q v σ
theorem ac {x : String} {pos : Pos} (h : sc.names.lookup (Str.ofString x) = some .local) (hd : (Str.ofString x == ("__debug__" : Str)) = false) : HE C sc k (.Name (Str.ofString x) pos) (ae x) := by
 refine ⟨?_⟩; intro env A s m σ Q P E en ao R F q₀ hP
 obtain ⟨v, hv, q⟩ := q₀.elim
 obtain ⟨mm, hn, hm⟩ := F.ns
 obtain ⟨w, hw, hr⟩ := hm x v hv (en.of h)
 exact wpAny_Name (wpAny_loadName_local en.k (en.of h) hn hw (hP v w σ s hr R Step.refl q)) hd
theorem aT {x : String} {pos : Pos} (h : sc.names.lookup (Str.ofString x) = some .cell) (hd : (Str.ofString x == ("__debug__" : Str)) = false) : HE C sc k (.Name (Str.ofString x) pos) (ae x) := by
 refine ⟨?_⟩; intro env A s m σ Q P E en ao R F q₀ hP
 obtain ⟨v, hv, q⟩ := q₀.elim
 have kk := en.of h
 rcases F.cel x v hv with z | ⟨_, c, w, h1, h2, h3⟩
 ·rw [kk] at z; cases z
 ·exact wpAny_Name (wpAny_loadName_cell en.k kk h1 h2 (hP v w σ s h3 R Step.refl q)) hd
noncomputable def aw (v : V) : ET := fun _ σ Q => Q v σ
theorem o6 (O : C.Ok) {x : String} {pos : Pos} {v : V} {w : Value} (h : sc.names.lookup (Str.ofString x) = some .globalImplicit) (hg : C.mg (Str.ofString x) = some w) (hv : ∀ h, VRel C.aS h v w) (hd : (Str.ofString x == ("__debug__" : Str)) = false) :
  HE C sc k (.Name (Str.ofString x) pos) (aw v) := by
 refine ⟨?_⟩; intro env A s m σ Q P E en ao R F q hP
 exact Calls.Name_function_global en.k (en.of h) (Calls.loadGlobal_global (mg := C.mg) (by rw [en.globals]; exact O.g.keeps R.base) hg (hP v w σ s (hv _) R Step.refl q)) hd
theorem aD {i : Int} {n : Nat} {pos : Pos} : HE C sc k (.Constant (.int i) n pos) (aw (.int i)) := by
 refine ⟨?_⟩; intro env A s m σ Q P E en ao R F q hP
 exact wpAny_Constant_int (hP _ _ σ _ (.int i _) (R.tok _) (Step.refl) q)
theorem bd {x : Str} {n : Nat} {pos : Pos} : HE C sc k (.Constant (.str x) n pos) (aw (.str x)) := by
 refine ⟨?_⟩; intro env A s m σ Q P E en ao R F q hP
 exact Calls.Constant_str (hP _ _ σ _ (.str x _) (R.tok _) (Step.refl) q)
theorem bI {b : Bool} {n : Nat} {pos : Pos} : HE C sc k (.Constant (.bool b) n pos) (aw (.bool b)) := by
 refine ⟨?_⟩; intro env A s m σ Q P E en ao R F q hP
 exact wpAny_Constant_bool (hP _ _ σ _ (.bool b) R (Step.refl) q)
theorem ly {n : Nat} {pos : Pos} : HE C sc k (.Constant .none n pos) (aw .none) := by
 refine ⟨?_⟩; intro env A s m σ Q P E en ao R F q hP
 exact wpAny_Constant_none (hP _ _ σ _ .none R (Step.refl) q)
theorem oa (O : C.Ok) {x n : String} {pos : Pos} (h : sc.names.lookup (Str.ofString x) = some .globalImplicit) (hg : C.mg (Str.ofString x) = Option.none) (hb : C.mb (Str.ofString x) = some (.type n)) (hd : (Str.ofString x == ("__debug__" : Str)) = false) :
  HE C sc k (.Name (Str.ofString x) pos) (aw (.ty n)) := by
 refine ⟨?_⟩; intro env A s m σ Q P E en ao R F q hP
 exact Calls.Name_function_global en.k (en.of h) (Calls.loadGlobal_builtin (mg := C.mg) (mb := C.mb) (by rw [en.globals]; exact O.g.keeps R.base) hg (by rw [en.builtins]; exact O.b.keeps R.base) hb (hP _ _ σ s (.ty n) R Step.refl q)) hd
noncomputable def ar : LT := fun _ σ Q => Q [] σ
noncomputable def ai (T : ET) (L : LT) : LT := fun m σ Q => T m σ fun v σ₁ => L m σ₁ fun vs σ₂ => Q (v :: vs) σ₂
theorem ak : HL C sc k [] ar := by
 refine ⟨?_⟩; intro env A s m σ pos Q P E en ao R F q hP
 exact Calls.spliced_nil (hP [] [] σ s .nil R Step.refl q)
noncomputable def kE : Expr → Bool
 | .Starred .. => false
 | _ => true
theorem cQ {e : Expr} {rest : List Expr} {env : Env} (h : kE e = true) : starEach (e :: rest) env = (false, eval e env) :: starEach rest env := by
 cases e <;> first | rfl | cases h
theorem af {e : Expr} {es : List Expr} {T : ET} {L : LT} (he : HE C sc k e T) (hl : HL C sc k es L) (hs : kE e = true) : HL C sc k (e :: es) (ai T L) := by
 refine ⟨?_⟩; intro env A s m σ pos Q P E en ao R F q hP
 rw [cQ hs]
 show wpAny _ A (spliced ((false, eval e env) :: backTo pos (starEach es env))) P E s
 refine Calls.spliced_cons (he.run env A s m σ _ _ E en ao R F q fun v w σ₁ s₁ hv R₁ S₁ q₁ => ?_)
 exact hl.run env A s₁ m σ₁ pos _ _ E en ao R₁ (F.step R S₁) q₁ fun vs ws σ₂ s₂ hvs R₂ S₂ q₂ => hP _ _ σ₂ s₂ (.cons (hv.keep (S₂.tupsN R₁)) hvs) R₂ (S₁.trans S₂) q₂
noncomputable def d5 (L : LT) : ET := fun m σ Q => L m σ fun vs σ₁ => (vs.length ≤ 1000 ∧ uI vs = true) ∧ Q (.tup vs) σ₁
theorem aV {h : Heap} {o : Obj} : ∀ b o', h.get? b = some o' → (h.push o).get? b = some o' := fun _ _ e => Heap.get?_push_of_some _ e
theorem bY {es : List Expr} {L : LT} {n : Nat} {pos : Pos} (hl : HL C sc k es L) : HE C sc k (.Tuple es n pos) (d5 L) := by
 refine ⟨?_⟩; intro env A s m σ Q P E en ao R F q hP
 show wpAny _ A (do standAt pos; newTuple (← spliced (backTo pos (starEach es env)))) P E s
 refine wpAny_bind (wpAny_standAt (wpAny_bind (hl.run env A s m σ pos _ _ E en ao R F q fun vs ws σ₁ s₁ hv R₁ S₁ q₁ => ?_)))
 have hlen := hv.length
 refine wpAny_newTuple (hP _ _ σ₁ _ (.tup (ws := ws) ⟨_, Heap.get?_push_size _ rfl, rfl, _, rfl⟩ (hv.keep fun _ _ e _ => aV _ _ e) (tS hv q₁.1.2)) (R₁.grow aV) (S₁.trans .push) q₁.2) (by rw [← hlen, sizeLine_eq]; exact Nat.le_trans q₁.1.1 (by decide))
noncomputable def cR (xs : List V) (σ : ah) (Q : V → ah → Prop) : Prop := ∀ a, σ a = none → Q (.ref a) (aY σ a (.list xs))
noncomputable def b4 (L : LT) : ET := fun m σ Q => L m σ fun vs σ₁ => vs.length ≤ 1000 ∧ cR vs σ₁ Q
theorem br {es : List Expr} {L : LT} {pos : Pos} (hl : HL C sc k es L) : HE C sc k (.List es pos) (b4 L) := by
 refine ⟨?_⟩; intro env A s m σ Q P E en ao R F q hP
 show wpAny _ A (do standAt pos; newList (← spliced (backTo pos (starEach es env)))) P E s
 refine wpAny_bind (wpAny_standAt (wpAny_bind (hl.run env A s m σ pos _ _ E en ao R F q fun vs ws σ₁ s₁ hv R₁ S₁ q₁ => ?_)))
 have hlen := hv.length
 have hn := bC s₁.heap
 refine wpAny_newList (hP _ _ (aY σ₁ s₁.heap.objs.size (.list vs)) _ (.ref _) (R₁.add (tk := s₁.toks) aV hn ⟨Nat.le_trans q₁.1 (by decide), ws, ⟨_, Heap.get?_push_size _ rfl⟩, hv.keep fun _ _ e _ => aV _ _ e⟩) (S₁.trans .addPush) (q₁.2 _ (R₁.freshNone hn))) (by rw [← hlen, sizeLine_eq]; exact Nat.le_trans q₁.1 (by decide))
end
end Mine
end
noncomputable section
namespace Mine
open PySem
abbrev O2 := V → V → ah → (V → ah → Prop) → Prop
abbrev O1 := V → ah → (V → ah → Prop) → Prop
abbrev tA (C : Cx) (σ : ah) (s : Shared) (Q : V → ah → Prop) (P : Value → Shared → Prop) : Prop :=
 ∀ v w σ' s', VRel C.aS s'.heap v w → RelG C σ' s' → Step no σ σ' s.heap s'.heap → Q v σ' → P w s'
noncomputable def fT (C : Cx) (k : Nat) (t : Value → Value → Sem Value) (op : O2) : Prop :=
 ∀ (A : Around) (s : Shared) (σ : ah) (a b : V) (wa wb : Value) (Q : V → ah → Prop) (P E : Value → Shared → Prop), AOk C A k → RelG C σ s → VRel C.aS s.heap a wa → VRel C.aS s.heap b wb → op a b σ Q → tA C σ s Q P →
  wpAny (model C.prog C.w) A (t wa wb) P E s
noncomputable def x8 (C : Cx) (k : Nat) (t : Value → Sem Value) (op : O1) : Prop :=
 ∀ (A : Around) (s : Shared) (σ : ah) (a : V) (wa : Value) (Q : V → ah → Prop) (P E : Value → Shared → Prop), AOk C A k → RelG C σ s → VRel C.aS s.heap a wa → op a σ Q → tA C σ s Q P →
  wpAny (model C.prog C.w) A (t wa) P E s
noncomputable def av (op : O2) (T U : ET) : ET := fun m σ Q => T m σ fun a σ₁ => U m σ₁ fun b σ₂ => op a b σ₂ Q
noncomputable def wz (op : O1) (T : ET) : ET := fun m σ Q => T m σ fun a σ₁ => op a σ₁ Q
section
variable {C : Cx} {sc : Scope} {k : Nat}
theorem two {op : O2} {t : Value → Value → Sem Value} {T U : ET} {e f : Expr} (hop : fT C k t op) (he : HE C sc k e T) (hf : HE C sc k f U) {env : Env} {A : Around} {s : Shared} {m : bb} {σ : ah} {Q : V → ah → Prop} {P E : Value → Shared → Prop}
  (en : EnvOk env sc) (ao : AOk C A k) (R : RelG C σ s) (F : FrameRel C env m σ s.heap) (q : av op T U m σ Q) (hP : tA C σ s Q P) :
  wpAny (model C.prog C.w) A (eval e env) (fun a s₁ => wpAny (model C.prog C.w) A (eval f env) (fun b s₂ => wpAny (model C.prog C.w) A (t a b) P E s₂) E s₁) E s :=
 he.run env A s m σ _ _ E en ao R F q fun a wa σ₁ s₁ va R₁ S₁ q₁ =>
  hf.run env A s₁ m σ₁ _ _ E en ao R₁ (F.step R S₁) q₁ fun b wb σ₂ s₂ vb R₂ S₂ q₂ =>
   hop A s₂ σ₂ a b wa wb Q P E ao R₂ (va.keep (S₂.tupsN R₁)) vb q₂ fun v w σ' s' hv R' S' q' => hP v w σ' s' hv R' ((S₁.trans S₂).trans S') q'
theorem aM {op : O2} {o : Operator} {l r : Expr} {pos : Pos} {T U : ET} (hop : fT C k (binaryOp o) op) (hl : HE C sc k l T) (hr : HE C sc k r U) : HE C sc k (.BinOp l o r pos) (av op T U) := by
 refine ⟨?_⟩; intro env A s m σ Q P E en ao R F q hP
 exact wpAny_BinOp (two hop hl hr en ao R F q hP)
theorem r6 {op : O2} {o : CmpOp} {l r : Expr} {pos : Pos} {T U : ET} (hop : fT C k (compareOp o) op) (hl : HE C sc k l T) (hr : HE C sc k r U) (hm : behindInMarks o r = false) : HE C sc k (.Compare l [o] [r] pos) (av op T U) := by
 refine ⟨?_⟩; intro env A s m σ Q P E en ao R F q hP
 exact wpAny_Compare1 (two hop hl hr en ao R F q hP) hm
theorem rZ {op : O1} {o : UnaryOp} {e : Expr} {pos : Pos} {T : ET} (hop : x8 C k (unaryOp o) op) (he : HE C sc k e T) : HE C sc k (.UnaryOp o e pos) (wz op T) := by
 refine ⟨?_⟩; intro env A s m σ Q P E en ao R F q hP
 exact wpAny_UnaryOp (he.run env A s m σ _ _ E en ao R F q fun a wa σ₁ s₁ va R₁ S₁ q₁ =>
  hop A s₁ σ₁ a wa Q P E ao R₁ va q₁ fun v w σ' s' hv R' S' q' => hP v w σ' s' hv R' (S₁.trans S') q')
noncomputable def aL (T : ET) : BT := fun m σ Q => T m σ fun v σ' => isB v fun b => Q b σ'
theorem aX {op : O2} {o : CmpOp} {l r : Expr} {pos : Pos} {T U : ET} (hop : fT C k (compareOp o) op) (hl : HE C sc k l T) (hr : HE C sc k r U) (hm : behindInMarks o r = false) : HB C sc k (.Compare l [o] [r] pos) (aL (av op T U)) := by
 refine ⟨?_⟩; intro env A s m σ Q P E en ao R F q hP
 refine wpAny_isTrue_Compare1 (two (P := fun c s₃ => wpAny _ A (truthy c) P E s₃) hop hl hr en ao R F q fun v w σ' s' hv R' S' q' => ?_) hm
 replace q' := q'.elim
 obtain ⟨b, rfl, q'⟩ := q'
 cases hv
 exact wpAny_truthy_bool (hP b σ' s' R' S' q')
noncomputable def om (o1 o2 : O2) (T U W : ET) : BT := fun m σ Q => T m σ fun a σ₁ => U m σ₁ fun b σ₂ => o1 a b σ₂ fun v σ₃ => isB v fun x => if x then W m σ₃ fun c σ₄ => o2 b c σ₄ fun u σ₅ => isB u fun y => Q y σ₅ else Q false σ₃
theorem o9 {p1 p2 : O2} {o1 o2 : CmpOp} {l r z : Expr} {pos : Pos} {T U W : ET} (h1 : fT C k (compareOp o1) p1) (h2 : fT C k (compareOp o2) p2) (hl : HE C sc k l T) (hr : HE C sc k r U) (hz : HE C sc k z W) (hm : behindInMarks o2 z = false) :
  HB C sc k (.Compare l [o1, o2] [r, z] pos) (om p1 p2 T U W) := by
 refine ⟨?_⟩; intro env A s m σ Q P E en ao R F q hP
 show wpAny _ A (do testChain pos (← eval l env) [o1, o2] [eval r env, markedBehindIn o2 z (eval z env)]) P E s
 rw [markedBehindIn_of_false hm]
 refine wpAny_bind (hl.run env A s m σ _ _ E en ao R F q fun a wa σ₁ s₁ va R₁ S₁ q₁ => ?_)
 show wpAny _ A (do
  let rv ← holding [wa] (eval r env)
  standAt pos
  let c ← holding [wa, rv] (compareOp o1 wa rv)
  release [wa, rv] [c]
  if ← holding [c, rv] (truthy c) then testChain pos rv [o2] [eval z env] else pure false) P E s₁
 refine wpAny_bind (wpAny_holding (hr.run env A s₁ m σ₁ _ _ E en ao R₁ (F.step R S₁) q₁ fun b wb σ₂ s₂ vb R₂ S₂ q₂ => ?_))
 refine wpAny_bind (wpAny_standAt (wpAny_bind (wpAny_holding ?_)))
 refine h1 A s₂ σ₂ a b wa wb _ _ E ao R₂ (va.keep (S₂.tupsN R₁)) vb q₂ fun v w σ₃ s₃ hv R₃ S₃ q₃ => ?_
 replace q₃ := q₃.elim
 obtain ⟨x, rfl, q₃⟩ := q₃
 cases hv
 refine wpAny_bind ?_
 intro Γ p hΓ
 rw [Sem.wp_release]
 refine wpAny_bind (wpAny_holding (wpAny_truthy_bool ?_))
 have S₁₃ := (S₁.trans S₂).trans S₃
 cases x with
 | false => exact wpAny_pure (hP false σ₃ s₃ R₃ S₁₃ (by simpa using q₃))
 | true =>
  simp only [if_true] at q₃ ⊢
  show wpAny _ A (do
   let rv ← holding [wb] (eval z env)
   standAt pos
   let c ← operate [wb, rv] (compareOp o2 wb rv)
   holding [c] (truthy c)) P E s₃
  refine wpAny_bind (wpAny_holding (hz.run env A s₃ m σ₃ _ _ E en ao R₃ (F.step R S₁₃) q₃ fun c wc σ₄ s₄ vc R₄ S₄ q₄ => ?_))
  refine wpAny_bind (wpAny_standAt (wpAny_bind (wpAny_operating ?_)))
  refine h2 A s₄ σ₄ b c wb wc _ _ E ao R₄ ((vb.keep (S₃.tupsN R₂)).keep (S₄.tupsN R₃)) vc q₄ fun v w σ₅ s₅ hv R₅ S₅ q₅ => ?_
  replace q₅ := q₅.elim
  obtain ⟨y, rfl, q₅⟩ := q₅
  cases hv
  exact wpAny_holding (wpAny_truthy_bool (hP y σ₅ s₅ R₅ ((S₁₃.trans S₄).trans S₅) q₅))
theorem ct {e : Expr} {T : ET} (he : HE C sc k e T) (hi : ∀ env whole, isTrue e env whole = (do let v ← whole; standAt e.pos; holding [v] (truthy v))) : HB C sc k e (aL T) := by
 refine ⟨?_⟩; intro env A s m σ Q P E en ao R F q hP
 refine wpAny_isTrue_value (he.run env A s m σ _ _ E en ao R F q fun v w σ' s' hv R' S' q' => ?_) (hi env _)
 replace q' := q'.elim
 obtain ⟨b, rfl, q'⟩ := q'
 cases hv
 exact wpAny_truthy_bool (hP b σ' s' R' S' q')
noncomputable def ip (T : BT) : BT := fun m σ Q => T m σ fun b σ' => Q (!b) σ'
theorem dc {e : Expr} {pos : Pos} {T : BT} (he : HB C sc k e T) : HB C sc k (.UnaryOp .Not e pos) (ip T) := by
 refine ⟨?_⟩; intro env A s m σ Q P E en ao R F q hP
 exact wpAny_isTrue_Not (he.run env A s m σ _ _ E en ao R F q fun b σ' s' R' S' q' => hP (!b) σ' s' R' S' q')
structure HBs (C : Cx) (sc : Scope) (k : Nat) (op : BoolOp) (es : List Expr) (T : BT) : Prop where
 run : ∀ (env : Env) (A : Around) (s : Shared) (m : bb) (σ : ah) (Q : Bool → ah → Prop) (P : Bool → Shared → Prop) (E : Value → Shared → Prop),
  EnvOk env sc → AOk C A k → RelG C σ s → FrameRel C env m σ s.heap → T m σ Q →
  (∀ b σ' s', RelG C σ' s' → Step no σ σ' s.heap s'.heap → Q b σ' → P b s') →
  wpAny (model C.prog C.w) A (allTrue op es env) P E s
noncomputable def tT : BT := fun _ σ Q => Q true σ
noncomputable def tF : BT := fun _ σ Q => Q false σ
noncomputable def fg (T U : BT) : BT := fun m σ Q => T m σ fun b σ' => if b then U m σ' Q else Q false σ'
noncomputable def nd (T U : BT) : BT := fun m σ Q => T m σ fun b σ' => if b then Q true σ' else U m σ' Q
theorem cX : HBs C sc k .And [] tT := ⟨fun _ _ s _ σ _ _ _ _ _ R _ q hP => wpAny_allTrue_And_nil (hP true σ s R Step.refl q)⟩
theorem dq : HBs C sc k .Or [] tF := ⟨fun _ _ s _ σ _ _ _ _ _ R _ q hP => wpAny_allTrue_Or_nil (hP false σ s R Step.refl q)⟩
theorem cv {e : Expr} {es : List Expr} {T U : BT} (he : HB C sc k e T) (hs : HBs C sc k .And es U) : HBs C sc k .And (e :: es) (fg T U) := by
 refine ⟨?_⟩; intro env A s m σ Q P E en ao R F q hP
 refine wpAny_allTrue_And_cons (he.run env A s m σ _ _ E en ao R F q fun b σ' s' R' S' q' => ?_)
 cases b with
 | false => simpa using hP false σ' s' R' S' (by simpa using q')
 | true => simp only [if_true] at q' ⊢; exact hs.run env A s' m σ' Q P E en ao R' (F.step R S') q' fun b σ₂ s₂ R₂ S₂ q₂ => hP b σ₂ s₂ R₂ (S'.trans S₂) q₂
theorem cr {e : Expr} {es : List Expr} {T U : BT} (he : HB C sc k e T) (hs : HBs C sc k .Or es U) : HBs C sc k .Or (e :: es) (nd T U) := by
 refine ⟨?_⟩; intro env A s m σ Q P E en ao R F q hP
 refine wpAny_allTrue_Or_cons (he.run env A s m σ _ _ E en ao R F q fun b σ' s' R' S' q' => ?_)
 cases b with
 | true => simpa using hP true σ' s' R' S' (by simpa using q')
 | false => simp only [Bool.false_eq_true, if_false] at q' ⊢; exact hs.run env A s' m σ' Q P E en ao R' (F.step R S') q' fun b σ₂ s₂ R₂ S₂ q₂ => hP b σ₂ s₂ R₂ (S'.trans S₂) q₂
theorem bM {op : BoolOp} {es : List Expr} {pos : Pos} {T : BT} (h : HBs C sc k op es T) : HB C sc k (.BoolOp op es pos) T := by
 refine ⟨?_⟩; intro env A s m σ Q P E en ao R F q hP
 exact wpAny_isTrue_BoolOp (h.run env A s m σ Q P E en ao R F q hP)
structure HVs (C : Cx) (sc : Scope) (k : Nat) (op : BoolOp) (es : List Expr) (T : ET) : Prop where
 run : ∀ (env : Env) (A : Around) (s : Shared) (m : bb) (σ : ah) (pos : Pos) (Q : V → ah → Prop) (P : Value → Shared → Prop) (E : Value → Shared → Prop),
  EnvOk env sc → AOk C A k → RelG C σ s → FrameRel C env m σ s.heap → T m σ Q → tA C σ s Q P → wpAny (model C.prog C.w) A (boolOp pos op (evalEach es env)) P E s
theorem td {op : BoolOp} {e : Expr} {T : ET} (he : HE C sc k e T) : HVs C sc k op [e] T := by
 refine ⟨?_⟩; intro env A s m σ pos Q P E en ao R F q hP
 exact he.run env A s m σ Q P E en ao R F q hP
noncomputable def uV (T U : ET) : ET := fun m σ Q => T m σ fun v σ' => isB v fun b => if b then U m σ' Q else Q (.bool false) σ'
theorem te {e f : Expr} {es : List Expr} {T U : ET} (he : HE C sc k e T) (hs : HVs C sc k .And (f :: es) U) : HVs C sc k .And (e :: f :: es) (uV T U) := by
 refine ⟨?_⟩; intro env A s m σ pos Q P E en ao R F q hP
 show wpAny _ A (do
  let v ← eval e env
  standAt pos
  let t ← holding [v] (truthy v)
  match BoolOp.And, t with
  | .And, false | .Or, true => pure v
  | _, _ => boolOp pos .And (evalEach (f :: es) env)) P E s
 refine wpAny_bind (he.run env A s m σ _ _ E en ao R F q fun v w σ' s' hv R' S' q' => wpAny_bind (wpAny_standAt (wpAny_bind (wpAny_holding ?_))))
 replace q' := q'.elim
 obtain ⟨b, rfl, q'⟩ := q'
 cases hv
 refine wpAny_truthy_bool ?_
 cases b with
 | false => exact wpAny_pure (hP _ _ σ' s' (.bool false) R' S' (by simpa using q'))
 | true => simp only [if_true] at q'; exact hs.run env A s' m σ' pos Q P E en ao R' (F.step R S') q' fun v w σ₂ s₂ hv R₂ S₂ q₂ => hP v w σ₂ s₂ hv R₂ (S'.trans S₂) q₂
theorem qi {op : BoolOp} {es : List Expr} {pos : Pos} {T : ET} (h : HVs C sc k op es T) : HE C sc k (.BoolOp op es pos) T := by
 refine ⟨?_⟩; intro env A s m σ Q P E en ao R F q hP
 exact h.run env A s m σ pos Q P E en ao R F q hP
theorem r0 {op : O2} {value slice : Expr} {pos : Pos} {T U : ET} (hv : HE C sc k value T) (hi : HE C sc k slice U)
  (hop : fT C k (fun o i => getitemInPython o >>= fun b => subscripted slice b o i) op) : HE C sc k (.Subscript value slice pos) (av op T U) := by
 refine ⟨?_⟩; intro env A s m σ Q P E en ao R F q hP
 show wpAny _ A (do
  let o ← eval value env
  let i ← holding [o] (eval slice env)
  standAt pos
  let r ← subscripted slice (← getitemInPython o) o i
  letTemporaryGo value o r
  pure r) P E s
 refine wpAny_bind (wpAny_mono (two (P := P) (E := E) hop hv hi en ao R F q hP) (fun o s₁ h₁ => wpAny_bind (wpAny_holding (wpAny_mono h₁ (fun i s₂ h₂ => wpAny_bind (wpAny_standAt ?_)) fun _ _ x => x))) fun _ _ x => x)
 have h₃ : wpAny (model C.prog C.w) A ((getitemInPython o >>= fun b => subscripted slice b o i) >>= fun r => letTemporaryGo value o r >>= fun _ => pure r) P E s₂ :=
  wpAny_bind (wpAny_mono h₂ (fun r s₃ hr => wpAny_bind (wpAny_letTemporaryGo (wpAny_pure hr))) fun _ _ x => x)
 rwa [bind_assoc] at h₃
end
end Mine
end
noncomputable section
namespace Mine
open PySem
noncomputable def il (i : Int) : Prop := i.natAbs < 2 ^ 64
theorem vg {i : Int} {n : Nat} (h : 0 < i) (h2 : i < n) : i.natAbs < n := by obtain ⟨m, rfl⟩ := Int.eq_ofNat_of_zero_le (Int.le_of_lt h); exact Int.ofNat_lt.mp h2
theorem fm {i : Int} (h : il i) : Builtin.Int.intBits i ≤ 64 := by
 unfold Builtin.Int.intBits
 split
 ·decide
 ·rename_i hn
  have h0 : i.natAbs ≠ 0 := by
   intro e
   have : i = 0 := Int.natAbs_eq_zero.mp e
   simp [this] at hn
  have := (Nat.log2_lt h0).mpr h
  exact this
theorem eZ {α : Type} [DecidableEq α] (a b : α) : (a == b) = decide (a = b) := by
 by_cases h : a = b
 ·subst h; simp
 ·simp [h]
section
variable {C : Cx} {k : Nat}
noncomputable def oz : O2
 | .int x, .int y, σ, Q => Q (.int (x - y)) σ
 | _, _, _, _ => False
theorem qS : fT C k (binaryOp .Sub) oz := by
 intro A s σ a b wa wb Q P E ao R va vb q hP
 cases a <;> first | exact q.elim | skip
 cases b <;> first | exact q.elim | skip
 cases va; cases vb
 exact _root_.PySem.P.sub_int (hP _ _ σ _ (.int _ _) (R.tok _) Step.refl q)
noncomputable def bP : O2
 | .int x, .int y, σ, Q => 0 < y ∧ Q (.int (x % y)) σ
 | _, _, _, _ => False
theorem bE : fT C k (binaryOp .Mod) bP := by
 intro A s σ a b wa wb Q P E ao R va vb q hP
 cases a <;> first | exact q.elim | skip
 cases b <;> first | exact q.elim | skip
 cases va; cases vb
 rename_i x t y u
 obtain ⟨hy, q⟩ := q
 refine PyProof.Rows.mod_int' (by exact Int.ne_of_gt hy) ?_
 rw [Int.fmod_eq_emod_of_nonneg _ (by exact Int.le_of_lt hy)]
 exact hP _ _ σ _ (.int _ _) (R.tok _) Step.refl q
noncomputable def f7 : O2
 | .int x, .int y, σ, Q => (0 < y ∧ y < 1073741824) ∧ Q (.int (x / y)) σ
 | _, _, _, _ => False
theorem fG : fT C k (binaryOp .FloorDiv) f7 := by
 intro A s σ a b wa wb Q P E ao R va vb q hP
 cases a <;> first | exact q.elim | skip
 cases b <;> first | exact q.elim | skip
 cases va; cases vb
 obtain ⟨hy, q⟩ := q
 refine PyProof.Rows.floordiv_int (by exact Int.ne_of_gt hy.1) ?_ (.inl (PyProof.noPylong_small (vg (n := 1073741824) hy.1 hy.2)))
 rw [Int.fdiv_eq_ediv_of_nonneg _ (by exact Int.le_of_lt hy.1)]
 exact hP _ _ σ _ (.int _ _) (R.tok _) Step.refl q
noncomputable def lP : O2
 | .int x, .int y, σ, Q => (il x ∨ il y) ∧ Q (.int (x * y)) σ
 | _, _, _, _ => False
theorem nB : fT C k (binaryOp .Mult) lP := by
 intro A s σ a b wa wb Q P E ao R va vb q hP
 cases a <;> first | exact q.elim | skip
 cases b <;> first | exact q.elim | skip
 cases va; cases vb
 refine _root_.PySem.P.mul_int (hP _ _ σ _ (.int _ _) (R.tok _) Step.refl q.2) (q.1.elim (fun h => .of_left (fm h)) fun h => ?_)
 exact .of_right (fm h)
noncomputable def lQ : O2
 | .int x, .int y, σ, Q => Q (.bool (decide (x < y))) σ
 | _, _, _, _ => False
noncomputable def qM : O2
 | .int x, .int y, σ, Q => Q (.bool (decide (x ≤ y))) σ
 | _, _, _, _ => False
noncomputable def sz : O2
 | .int x, .int y, σ, Q => Q (.bool (decide (x > y))) σ
 | _, _, _, _ => False
theorem oE : fT C k (compareOp .Lt) lQ := by
 intro A s σ a b wa wb Q P E ao R va vb q hP
 cases a <;> first | exact q.elim | skip
 cases b <;> first | exact q.elim | skip
 cases va; cases vb
 exact _root_.PySem.P.lt_int (hP _ _ σ _ (.bool _) R Step.refl q)
theorem qV : fT C k (compareOp .LtE) qM := by
 intro A s σ a b wa wb Q P E ao R va vb q hP
 cases a <;> first | exact q.elim | skip
 cases b <;> first | exact q.elim | skip
 cases va; cases vb
 exact _root_.PySem.P.le_int (hP _ _ σ _ (.bool _) R Step.refl q)
theorem tO : fT C k (compareOp .Gt) sz := by
 intro A s σ a b wa wb Q P E ao R va vb q hP
 cases a <;> first | exact q.elim | skip
 cases b <;> first | exact q.elim | skip
 cases va; cases vb
 exact _root_.PySem.P.gt_int (hP _ _ σ _ (.bool _) R Step.refl q)
noncomputable def oA : O1
 | .int x, σ, Q => Q (.int (-x)) σ
 | _, _, _ => False
theorem qU : x8 C k (unaryOp .USub) oA := by
 intro A s σ a wa Q P E ao R va q hP
 cases a <;> first | exact q.elim | skip
 cases va
 exact _root_.PySem.P.neg_int (hP _ _ σ _ (.int _ _) (R.tok _) Step.refl q)
noncomputable def veq0 : V → V → Option Bool
 | .none, .none => some true
 | .none, .str _ => some false
 | .str _, .none => some false
 | .bool a, .bool b => some (a == b)
 | .int a, .int b => some (decide (a = b))
 | .str a, .str b => some (decide (a = b))
 | _, _ => none
theorem veq0.ind {a b : V} {r : Bool} (h : veq0 a b = some r) {P : V → V → Bool → Prop} (c1 : P .none .none true) (c2 : ∀ y, P .none (.str y) false) (c3 : ∀ x, P (.str x) .none false)
  (c4 : ∀ x y, P (.bool x) (.bool y) (x == y)) (c5 : ∀ x y, P (.int x) (.int y) (decide (x = y))) (c6 : ∀ x y, P (.str x) (.str y) (decide (x = y))) : P a b r := by
 have w : ∀ {X : Prop}, (Option.none : Option Bool) = some r → X := fun e => by cases e
 have z : ∀ {c : Bool}, some c = some r → P a b c → P a b r := fun e => Option.some.inj e ▸ id
 cases a <;> first | exact w h | skip
 all_goals (cases b <;> first | exact w h | exact z h c1 | exact z h (c2 _) | exact z h (c3 _) | exact z h (c4 _ _) | exact z h (c5 _ _) | exact z h (c6 _ _))
noncomputable def bF : O2 := fun a b σ Q => atK (veq0 a b) fun r => Q (.bool r) σ
noncomputable def f6 : O2 := fun a b σ Q => atK (veq0 a b) fun r => Q (.bool (!r)) σ
theorem bQ : fT C k (compareOp .Eq) bF := by
 intro A s σ a b wa wb Q P E ao R va vb q₀ hP
 obtain ⟨r, hr, q⟩ := q₀.elim
 clear q₀
 revert va vb q
 refine veq0.ind hr (P := fun a b r => VRel C.aS s.heap a wa → VRel C.aS s.heap b wb → Q (.bool r) σ → wpAny (model C.prog C.w) A (compareOp .Eq wa wb) P E s) ?_ ?_ ?_ ?_ ?_ ?_ <;> intros <;> rename_i va vb q <;> cases va <;> cases vb
 ·exact PySem.EqNone.eq_none_none (hP _ _ σ _ (.bool _) R Step.refl q)
 ·exact PySem.EqNone.eq_none_str (hP _ _ σ _ (.bool _) R Step.refl q)
 ·exact PySem.EqNone.eq_str_none (hP _ _ σ _ (.bool _) R Step.refl q)
 ·exact PyProof.Rows.eq_bool (hP _ _ σ _ (.bool _) R Step.refl q)
 ·exact _root_.PySem.P.eq_int (by rw [eZ]; exact hP _ _ σ _ (.bool _) R Step.refl q)
 ·exact PyProof.Rows.eq_str (hP _ _ σ _ (.bool _) R Step.refl (by rw [eZ]; exact q))
theorem uq : fT C k (compareOp .NotEq) f6 := by
 intro A s σ a b wa wb Q P E ao R va vb q₀ hP
 obtain ⟨r, hr, q⟩ := q₀.elim
 clear q₀
 revert va vb q
 refine veq0.ind hr (P := fun a b r => VRel C.aS s.heap a wa → VRel C.aS s.heap b wb → Q (.bool !r) σ → wpAny (model C.prog C.w) A (compareOp .NotEq wa wb) P E s) ?_ ?_ ?_ ?_ ?_ ?_ <;> intros <;> rename_i va vb q <;> cases va <;> cases vb
 ·exact PySem.EqNone.ne_none_none (hP _ _ σ _ (.bool _) R Step.refl q)
 ·exact PySem.EqNone.ne_none_str (hP _ _ σ _ (.bool _) R Step.refl q)
 ·exact PySem.EqNone.ne_str_none (hP _ _ σ _ (.bool _) R Step.refl q)
 ·exact PyProof.Rows.ne_bool (hP _ _ σ _ (.bool _) R Step.refl q)
 ·exact _root_.PySem.P.ne_int (hP _ _ σ _ (.bool _) R Step.refl (by rw [bne, eZ]; exact q))
 ·exact PyProof.Rows.ne_str (hP _ _ σ _ (.bool _) R Step.refl (by rw [bne, eZ]; exact q))
noncomputable def yh : O2
 | .str y, .str x, σ, Q => Q (.bool (Txt.contains x y)) σ
 | _, _, _, _ => False
noncomputable def iW : O2
 | .str y, .str x, σ, Q => Q (.bool (!Txt.contains x y)) σ
 | _, _, _, _ => False
theorem pH : fT C k (compareOp .NotIn) iW := by
 intro A s σ a b wa wb Q P E ao R va vb q hP
 cases a <;> first | exact q.elim | skip
 cases b <;> first | exact q.elim | skip
 cases va; cases vb
 exact SB.notContains (hP _ _ σ _ (.bool _) R Step.refl q)
end
end Mine
end
noncomputable section
namespace Mine
open PySem
theorem bR {a b : String} (h : Str.ofString a = Str.ofString b) : a = b := by
 rw [Str.ofString_eq_toList, Str.ofString_eq_toList] at h
 have h1 : (a.toList.map Char.toNat) = (b.toList.map Char.toNat) := by
  have := congrArg (fun x : Str => x.cps.toList) h
  simpa using this
 have h2 : a.toList = b.toList := by
  refine (List.map_inj_right ?_).mp h1
  intro x y e
  exact Char.toNat_inj.mp e
 exact String.toList_inj.mp h2
inductive Fl where
 | next | brk | cont
 | ret (v : V)
abbrev ST := bb → ah → (Fl → bb → ah → Prop) → Prop
inductive FlRel (aS : Addr) (h : Heap) : Fl → Flow → Prop
 | next : FlRel aS h .next .next
 | brk : FlRel aS h .brk .brk
 | cont : FlRel aS h .cont .cont
 | ret {v : V} {w : Value} : VRel aS h v w → FlRel aS h (.ret v) (.ret w)
abbrev wO (C : Cx) (env : Env) (σ : ah) (s : Shared) (Q : Fl → bb → ah → Prop) (P : Flow → Shared → Prop) : Prop :=
 ∀ f g m' σ' s', FlRel C.aS s'.heap f g → RelG C σ' s' → FrameRel C env m' σ' s'.heap → Step (kh env) σ σ' s.heap s'.heap → Q f m' σ' → P g s'
structure HS (C : Cx) (sc : Scope) (k : Nat) (b : List Stmt) (T : ST) : Prop where
 run : ∀ (env : Env) (A : Around) (s : Shared) (m : bb) (σ : ah) (Q : Fl → bb → ah → Prop) (P : Flow → Shared → Prop) (E : Value → Shared → Prop),
  EnvOk env sc → AOk C A k → RelG C σ s → FrameRel C env m σ s.heap → T m σ Q → wO C env σ s Q P → wpAny (model C.prog C.w) A (execs b env) P E s
structure HS1 (C : Cx) (sc : Scope) (k : Nat) (b : Stmt) (T : ST) : Prop where
 run : ∀ (env : Env) (A : Around) (s : Shared) (m : bb) (σ : ah) (Q : Fl → bb → ah → Prop) (P : Flow → Shared → Prop) (E : Value → Shared → Prop),
  EnvOk env sc → AOk C A k → RelG C σ s → FrameRel C env m σ s.heap → T m σ Q → wO C env σ s Q P → wpAny (model C.prog C.w) A (exec b env) P E s
section
variable {C : Cx} {sc : Scope} {k : Nat}
theorem FrameRel.ownT {env : Env} {m : bb} {σ : ah} {h : Heap} (F : FrameRel C env m σ h) : ∀ b o, kh env b → h.get? b = some o → ¬ fU o := by
 rintro b o (rfl | ⟨n, hn⟩) ho ⟨_, it, n', hd, _⟩
 ·obtain ⟨mm, ⟨o', es, ep, ho', hd', _⟩, _⟩ := F.ns
  rw [ho] at ho'; cases ho'; rw [hd] at hd'; cases hd'
 ·obtain ⟨v, o', ho', hd'⟩ := F.cells n b hn
  rw [ho] at ho'; cases ho'; rw [hd] at hd'; cases hd'
theorem Step.tupsO {env : Env} {m : bb} {σ σ' : ah} {s : Shared} {h' : Heap} (F : FrameRel C env m σ s.heap) (R : RelG C σ s) (S : Step (kh env) σ σ' s.heap h') : a0 s.heap h' := S.tups R F.ownT
theorem Step.own {env : Env} {σ σ' : ah} {h h' : Heap} (S : Step no σ σ' h h') : Step (kh env) σ σ' h h' := S.mono fun _ _ _ z => z.elim
noncomputable def au : ST := fun m σ Q => Q .next m σ
noncomputable def aq (T U : ST) : ST := fun m σ Q => T m σ fun f m₁ σ₁ => match f with
 | .next => U m₁ σ₁ Q
 | f => Q f m₁ σ₁
theorem am : HS C sc k [] au := ⟨fun _ _ s m σ _ _ _ _ _ R F q hP => wpAny_execs_nil (hP .next .next m σ s .next R F Step.refl q)⟩
theorem ag {st : Stmt} {b : List Stmt} {T U : ST} (h1 : HS1 C sc k st T) (h2 : HS C sc k b U) : HS C sc k (st :: b) (aq T U) := by
 refine ⟨?_⟩; intro env A s m σ Q P E en ao R F q hP
 refine wpAny_execs_cons (h1.run env A s m σ _ _ E en ao R F q fun f g m₁ σ₁ s₁ hf R₁ F₁ S₁ q₁ => ?_)
 cases hf with
 | next => exact h2.run env A s₁ m₁ σ₁ Q P E en ao R₁ F₁ q₁ fun f g m₂ σ₂ s₂ hf R₂ F₂ S₂ q₂ => hP f g m₂ σ₂ s₂ hf R₂ F₂ (S₁.trans S₂) q₂
 | brk => exact hP _ _ m₁ σ₁ s₁ .brk R₁ F₁ S₁ q₁
 | cont => exact hP _ _ m₁ σ₁ s₁ .cont R₁ F₁ S₁ q₁
 | ret hv => exact hP _ _ m₁ σ₁ s₁ (.ret hv) R₁ F₁ S₁ q₁
theorem cY {env : Env} {A : Around} {s : Shared} {m : bb} {σ : ah} {x : String} {v : V} {w : Value} {P : Unit → Shared → Prop} {E : Value → Shared → Prop} (en : EnvOk env sc) (R : RelG C σ s) (F : FrameRel C env m σ s.heap)
  (hl : sc.names.lookup (Str.ofString x) = some .local) (hv : VRel C.aS s.heap v w)
  (h : ∀ s', RelG C σ s' → FrameRel C env (put m x v) σ s'.heap → Step (fun b => b = env.locals) σ σ s.heap s'.heap → P () s') : wpAny (model C.prog C.w) A (storeName env (Str.ofString x) w) P E s := by
 obtain ⟨mm, hn, hm⟩ := F.ns
 have kl := en.of hl
 refine wpAny_storeName_local kl hn (fun h' hn' hs' => ?_) (by rw [en.k]; rfl)
 obtain ⟨oL, esL, epL, hoL, hdL, _⟩ := id hn
 have kt : a0 s.heap h' := fun b o e ht => (hs'.2 b (by rintro rfl; rw [hoL] at e; cases e; obtain ⟨_, _, _, hd, _⟩ := ht; rw [hdL] at hd; cases hd)).trans e
 have kc : ∀ c v, s.heap.IsCell c v → h'.IsCell c v := fun c v ⟨o, ho, hd⟩ => ⟨o, (hs'.2 c (by rintro rfl; rw [hoL] at ho; cases ho; rw [hdL] at hd; cases hd)).trans ho, hd⟩
 refine h _ ?_ ?_ ?_
 ·refine ⟨let ⟨_, _, d, e⟩ := R.rest; ⟨h', s.toks + 1, d, by rw [e]⟩, fun b o e => ?_, fun a o e => ?_, R.apart⟩
  ·exact (hs'.2 b (by rintro rfl; rw [F.baseL] at e; cases e)).trans (R.base b o e)
  ·exact (R.view a o e).keep kt fun o' e' => (hs'.2 a (by rintro rfl; rw [F.sepL] at e; cases e)).trans e'
 ·refine ⟨⟨_, hn', fun y u e ky => ?_⟩, fun y u e => ?_, fun n c e => ?_, F.sepL, F.baseL, F.baseC, F.dist, F.has⟩
  ·by_cases hy : y = x
   ·subst hy; rw [iT] at e; cases e; exact ⟨w, by simp, hv.keep kt⟩
   ·rw [fF hy] at e
    obtain ⟨w', h1, h2⟩ := hm y u e ky
    exact ⟨w', by simp [show ¬ Str.ofString y = Str.ofString x from fun z => hy (bR z), h1], h2.keep kt⟩
  ·by_cases hy : y = x
   ·subst hy; exact .inl kl
   ·rw [fF hy] at e
    rcases F.cel y u e with z | ⟨z, c, w', h1, h2, h3⟩
    ·exact .inl z
    ·exact .inr ⟨z, c, w', h1, kc _ _ h2, h3.keep kt⟩
  ·obtain ⟨v, hv⟩ := F.cells n c e; exact ⟨v, kc _ _ hv⟩
 ·exact .of (fun b o e n q => (hs'.2 b q).trans e) (Nat.le_of_eq hs'.1.symm) fun _ a b => absurd a b
theorem ng {env : Env} {A : Around} {s : Shared} {m : bb} {σ : ah} {x : String} {v : V} {w : Value} {P : Unit → Shared → Prop} {E : Value → Shared → Prop} (en : EnvOk env sc) (R : RelG C σ s) (F : FrameRel C env m σ s.heap)
  (hl : sc.names.lookup (Str.ofString x) = some .cell) (hv : VRel C.aS s.heap v w)
  (h : ∀ s', RelG C σ s' → FrameRel C env (put m x v) σ s'.heap → Step (kh env) σ σ s.heap s'.heap → P () s') : wpAny (model C.prog C.w) A (storeName env (Str.ofString x) w) P E s := by
 have kl := en.of hl
 obtain ⟨c₀, hc₀⟩ := F.has _ (.inl kl)
 obtain ⟨v₀, hv₀⟩ := F.cells _ _ hc₀
 refine wpAny_storeName_cell en.k kl hc₀ hv₀ fun h' hc' hs' => ?_
 obtain ⟨oc, hoc, hdc⟩ := id hv₀
 have kt : a0 s.heap h' := fun b o e ht => (hs'.2 b (by rintro rfl; rw [hoc] at e; cases e; obtain ⟨_, _, _, hd, _⟩ := ht; rw [hdc] at hd; cases hd)).trans e
 have kc : ∀ c v, c ≠ c₀ → s.heap.IsCell c v → h'.IsCell c v := fun c v hne ⟨o, ho, hd⟩ => ⟨o, (hs'.2 c hne).trans ho, hd⟩
 obtain ⟨mm, hn, hm⟩ := F.ns
 have hL : env.locals ≠ c₀ := by
  rintro e
  obtain ⟨oL, _, _, hoL, hdL, _⟩ := hn
  rw [e, hoc] at hoL; cases hoL; rw [hdc] at hdL; cases hdL
 have hσ : σ c₀ = Option.none := by
  cases z : σ c₀ with
  | none => rfl
  | some o' => obtain ⟨ob, h1, _, h3⟩ := (R.view c₀ o' z).shape; rw [hoc] at h1; cases h1; exact absurd hdc (h3 _)
 refine h _ ?_ ?_ ?_
 ·refine ⟨let ⟨_, _, d, e⟩ := R.rest; ⟨h', s.toks, d, by rw [e]⟩, fun b o e => ?_, fun a o e => ?_, R.apart⟩
  ·exact (hs'.2 b (by rintro rfl; rw [F.baseC _ _ hc₀] at e; cases e)).trans (R.base b o e)
  ·exact (R.view a o e).keep kt fun o' e' => (hs'.2 a (by rintro rfl; rw [hσ] at e; cases e)).trans e'
 ·refine ⟨⟨mm, hn.sameBut hs' hL, fun y u e ky => ?_⟩, fun y u e => ?_, fun n c e => ?_, F.sepL, F.baseL, F.baseC, F.dist, F.has⟩
  ·have hy : y ≠ x := by rintro rfl; rw [kl] at ky; cases ky
   rw [fF hy] at e
   obtain ⟨w', h1, h2⟩ := hm y u e ky
   exact ⟨w', h1, h2.keep kt⟩
  ·by_cases hy : y = x
   ·subst hy; rw [iT] at e; cases e; exact .inr ⟨.inl kl, c₀, w, hc₀, hc', hv.keep kt⟩
   ·rw [fF hy] at e
    rcases F.cel y u e with z | ⟨z, c, w', h1, h2, h3⟩
    ·exact .inl z
    ·exact .inr ⟨z, c, w', h1, kc _ _ (by rintro rfl; exact hy (bR (name_of_addr F.dist (mem_of_lookup h1) (mem_of_lookup hc₀)))) h2, h3.keep kt⟩
  ·by_cases hc : c = c₀
   ·subst hc; exact ⟨_, hc'⟩
   ·obtain ⟨v, hv⟩ := F.cells n c e; exact ⟨v, kc _ _ hc hv⟩
 ·exact .of (fun b o e n q => (hs'.2 b fun z => q (.inr ⟨_, z ▸ hc₀⟩)).trans e) (Nat.le_of_eq hs'.1.symm) fun _ a b => absurd a b
noncomputable def yu (sc : Scope) (x : String) : Prop := sc.names.lookup (Str.ofString x) = some .local ∨ sc.names.lookup (Str.ofString x) = some .cell
theorem vL {env : Env} {A : Around} {s : Shared} {m : bb} {σ : ah} {x : String} {v : V} {w : Value} {P : Unit → Shared → Prop} {E : Value → Shared → Prop} (en : EnvOk env sc) (R : RelG C σ s) (F : FrameRel C env m σ s.heap)
  (hl : yu sc x) (hv : VRel C.aS s.heap v w)
  (h : ∀ s', RelG C σ s' → FrameRel C env (put m x v) σ s'.heap → Step (kh env) σ σ s.heap s'.heap → P () s') : wpAny (model C.prog C.w) A (storeName env (Str.ofString x) w) P E s :=
 hl.elim (fun z => cY en R F z hv fun s' R' F' S' => h s' R' F' (S'.mono fun _ _ _ q => .inl q)) fun z => ng en R F z hv h
noncomputable def bf (x : String) (T : ET) : ST := fun m σ Q => T m σ fun v σ' => Q .next (put m x v) σ'
theorem aF {x : String} {p pos : Pos} {value : Expr} {T : ET} (hx : yu sc x) (he : HE C sc k value T) (hs : ∀ env, EnvOk env sc → swapsWith value (some (.Name (Str.ofString x) p)) pos.line env = pure false) : HS1 C sc k (.Assign [.Name (Str.ofString x) p] value pos) (bf x T) := by
 refine ⟨?_⟩; intro env A s m σ Q P E en ao R F q hP
 refine wpAny_Assign_Name (he.run env A s m σ _ _ E en ao R F q fun v w σ₁ s₁ hv R₁ S₁ q₁ => ?_) (hs env en)
 exact vL en R₁ (F.step R S₁) hx hv fun s₂ R₂ F₂ S₂ => hP .next .next _ σ₁ s₂ .next R₂ F₂ ((S₁.own).trans S₂) q₁
noncomputable def bD (T : ET) : ST := fun m σ Q => T m σ fun _ σ' => Q .next m σ'
theorem a8 {pos : Pos} {value : Expr} {T : ET} (he : HE C sc k value T) (hs : ∀ env, EnvOk env sc → swapsWith value Option.none pos.line env = pure false) : HS1 C sc k (.Expr value pos) (bD T) := by
 refine ⟨?_⟩; intro env A s m σ Q P E en ao R F q hP
 have hi : interactive env = false := by unfold interactive; rw [en.k]; rfl
 rw [exec_Expr env value pos hi (hs env en)]
 refine wpAny_bind (wpAny_standAt (wpAny_bind (he.run env A s m σ _ _ E en ao R F q fun v w σ₁ s₁ hv R₁ S₁ q₁ => ?_)))
 exact wpAny_dropValue (hP .next .next m σ₁ s₁ .next R₁ (F.step R S₁) S₁.own q₁)
noncomputable def cZ (B : BT) (T U : ST) : ST := fun m σ Q => B m σ fun b σ' => if b then T m σ' Q else U m σ' Q
theorem aN {pos : Pos} {test : Expr} {a b : List Stmt} {B : BT} {T U : ST} (hb : HB C sc k test B) (h1 : HS C sc k a T) (h2 : HS C sc k b U) : HS1 C sc k (.If test a b pos) (cZ B T U) := by
 refine ⟨?_⟩; intro env A s m σ Q P E en ao R F q hP
 refine wpAny_If (hb.run env A s m σ _ _ E en ao R F q fun b σ₁ s₁ R₁ S₁ q₁ => ?_)
 cases b with
 | true => simp only [if_true] at q₁ ⊢; exact h1.run env A s₁ m σ₁ Q P E en ao R₁ (F.step R S₁) q₁ fun f g m₂ σ₂ s₂ hf R₂ F₂ S₂ q₂ => hP f g m₂ σ₂ s₂ hf R₂ F₂ (S₁.own.trans S₂) q₂
 | false => simp only [Bool.false_eq_true, if_false] at q₁ ⊢; exact h2.run env A s₁ m σ₁ Q P E en ao R₁ (F.step R S₁) q₁ fun f g m₂ σ₂ s₂ hf R₂ F₂ S₂ q₂ => hP f g m₂ σ₂ s₂ hf R₂ F₂ (S₁.own.trans S₂) q₂
noncomputable def bA (T : ET) : ST := fun m σ Q => T m σ fun v σ' => Q (.ret v) m σ'
theorem aK {pos : Pos} {value : Expr} {T : ET} (he : HE C sc k value T) : HS1 C sc k (.Return (some value) pos) (bA T) := by
 refine ⟨?_⟩; intro env A s m σ Q P E en ao R F q hP
 exact wpAny_Return_some (he.run env A s m σ _ _ E en ao R F q fun v w σ₁ s₁ hv R₁ S₁ q₁ => hP (.ret v) (.ret w) m σ₁ s₁ (.ret hv) R₁ (F.step R S₁) S₁.own q₁)
theorem m0 {pos : Pos} : HS1 C sc k (.Return Option.none pos) (bA (aw .none)) := by
 refine ⟨?_⟩; intro env A s m σ Q P E en ao R F q hP
 exact wpAny_Return_none (hP (.ret .none) (.ret .none) m σ s (.ret .none) R F Step.refl q)
end
end Mine
end
noncomputable section
namespace Mine
open PySem
abbrev bK := List V → ah → (V → ah → Prop) → Prop
noncomputable def FnSound (C : Cx) (j : Nat) (f : Addr) (spec : bK) : Prop :=
 ∀ (A : Around) (s : Shared) (σ : ah) (vs : List V) (ws : List Value) (Q : V → ah → Prop) (P : Value → Shared → Prop) (E : Value → Shared → Prop),
  AOk C A (j + 1) → RelG C σ s → VRels C.aS s.heap vs ws → spec vs σ Q → tA C σ s Q P → codeAny (model C.prog C.w) A (.call (.ref f) ⟨ws, []⟩) (fun r s' => match r with | .ok (.ret v) => P v s' | .ok _ => False | .error e => E e s') s
noncomputable def aH : bb := fun _ => Option.none
noncomputable def aC : List String → List V → bb → bb
 | x :: xs, v :: vs, m => aC xs vs (put m x v)
 | _, _, m => m
theorem cu {x : Str} : ∀ (names : List (Str × NameKind)) (n : Nat) (acc : List (Str × Addr)), (names.lookup x = some .cell ∨ ∃ c, acc.lookup x = some c) → ∃ c, (cellsFrom n names acc).lookup x = some c
 | [], _, _, h => h.elim (fun e => by cases e) id
 | (y, q) :: r, n, acc, h => by
  unfold cellsFrom
  by_cases hq : q = .cell
  ·rw [if_pos (by simp [hq])]
   refine cu r _ _ ?_
   by_cases hy : x = y
   ·exact .inr ⟨n, by simp [hy]⟩
   ·have hb : (x == y) = false := by simp [hy]
    refine h.imp (fun e => ?_) fun ⟨c, e⟩ => ⟨c, ?_⟩
    ·rw [List.lookup_cons, hb] at e; exact e
    ·rw [List.lookup_cons, hb]; exact e
  ·rw [if_neg (by simpa using hq)]
   refine cu r _ _ ?_
   by_cases hy : x = y
   ·refine .inr (h.elim (fun e => ?_) id)
    rw [List.lookup_cons, show (x == y) = true by simp [hy]] at e
    exact absurd (Option.some.inj e) hq
   ·have hb : (x == y) = false := by simp [hy]
    refine h.imp (fun e => ?_) id
    rw [List.lookup_cons, hb] at e; exact e
section
variable {C : Cx}
theorem jg {h : Heap} (kindOf : Str → Option NameKind) : ∀ (xs : List String) (vs : List V) (ws : List Value) (m : bb) (mL mC : Str → Option Value),
  (∀ x ∈ xs, kindOf (Str.ofString x) = some .local ∨ kindOf (Str.ofString x) = some .cell) → VRels C.aS h vs ws →
  (∀ x v, m x = some v → (kindOf (Str.ofString x) = some .local ∧ ∃ w, mL (Str.ofString x) = some w ∧ VRel C.aS h v w) ∨ (kindOf (Str.ofString x) = some .cell ∧ ∃ w, mC (Str.ofString x) = some w ∧ VRel C.aS h v w)) →
  ∀ x v, aC xs vs m x = some v → (kindOf (Str.ofString x) = some .local ∧ ∃ w, bindL kindOf ((xs.map Str.ofString).zip ws) mL (Str.ofString x) = some w ∧ VRel C.aS h v w) ∨
   (kindOf (Str.ofString x) = some .cell ∧ ∃ w, bindC kindOf ((xs.map Str.ofString).zip ws) mC (Str.ofString x) = some w ∧ VRel C.aS h v w)
 | [], _, _, _, _, _, _, _, hm => by simpa [aC, bindL, bindC] using hm
 | x :: xs, [], _, _, _, _, _, .nil, hm => by simpa [aC, bindL, bindC] using hm
 | x :: xs, v :: vs, w :: ws, m, mL, mC, hk, .cons hv hvs, hm => by
  simp only [aC, List.map_cons, List.zip_cons_cons, bindL, bindC]
  refine jg kindOf xs vs ws _ _ _ (fun y hy => hk y (.tail _ hy)) hvs fun y u e => ?_
  by_cases hy : y = x
  ·subst hy
   rw [iT] at e; cases e
   rcases hk y (.head _) with z | z
   ·exact .inl ⟨z, w, by simp [z], hv⟩
   ·exact .inr ⟨z, w, by simp [z], hv⟩
  ·rw [fF hy] at e
   have hne : ¬ Str.ofString y = Str.ofString x := fun z => hy (bR z)
   rcases hm y u e with ⟨z, w', h1, h2⟩ | ⟨z, w', h1, h2⟩
   ·refine .inl ⟨z, w', ?_, h2⟩
    split <;> simp [hne, h1]
   ·refine .inr ⟨z, w', ?_, h2⟩
    split <;> simp [hne, h1]
theorem FnSound.mk (O : C.Ok) {f : Addr} {o : Obj} {fd : FuncData} {body : List Stmt} {xs : List String} {sc : Scope} {j : Nat} {spec : bK} {T : ST}
  (ho : C.hB.get? f = some o) (hd : o.data = .func fd) (hcd : C.hB.CodeRec fd.code fd.qualname) (hb : fd.body = .stmts body) (hsc : fd.scope = sc) (hcl : fd.closure = []) (hg : fd.globals = mainGlobals) (hbi : fd.builtins = builtinsNs)
  (hk : sc.kind = .function) (hfr : ∀ p ∈ sc.names, p.2 ≠ .free) (hco : sc.isCoroutine = false) (hgen : sc.isGenerator = false)
  (hbind : ∀ ws : List Value, ws.length = xs.length → bindArgs fd ⟨ws, []⟩ = pure ((xs.map Str.ofString).zip ws))
  (hloc : ∀ x ∈ xs, sc.names.lookup (Str.ofString x) = some .local ∨ sc.names.lookup (Str.ofString x) = some .cell)
  (hT : HS C sc j body T)
  (hspec : ∀ vs σ Q, spec vs σ Q → vs.length = xs.length ∧ T (aC xs vs aH) σ fun f _ σ' => match f with | .ret v => Q v σ' | .next => Q .none σ' | _ => False) : FnSound C j f spec := by
 intro A s σ vs ws Q P E ao R hvs hs hP
 subst hsc
 obtain ⟨hlen, q⟩ := hspec vs σ Q hs
 have hlw : ws.length = xs.length := by rw [← hvs.length]; exact hlen
 refine (codeAny_call_cells (fd := fd) (body := body) (binds := (xs.map Str.ofString).zip ws) (Nat.lt_of_le_of_lt (Nat.le_trans (Nat.le_add_right _ _) (Nat.le_add_right _ _)) ao.depth) (R.base _ _ ho) hd (O.nolimit.keeps R.base) (hcd.keeps R.base) hb (hbind ws hlw) hcl ?_ ?_ hco hgen hk)
 ·intro x hx
  have : x.1 ∈ xs.map Str.ofString := (List.of_mem_zip (a := x.1) (b := x.2) hx).1
  obtain ⟨y, hy, e⟩ := List.mem_map.mp this
  rw [← e]
  refine (hloc y hy).imp id fun z => ⟨z, ?_⟩
  obtain ⟨c, hc⟩ := cu (x := Str.ofString y) fd.scope.names (s.heap.objs.size + 1) [] (.inl z)
  rw [hc]; rfl
 ·intro s₁ x
  generalize henv : callEnvC fd s.heap.objs.size f = env at x ⊢
  have eS : env.scope = fd.scope := by rw [← henv]; rfl
  have eL : env.locals = s.heap.objs.size := by rw [← henv]; rfl
  have eC : env.cells = cellsFrom (s.heap.objs.size + 1) fd.scope.names [] := by rw [← henv]; rfl
  have en : EnvOk env fd.scope := ⟨eS, hk, by rw [← henv]; exact hg, by rw [← henv]; exact hbi⟩
  obtain ⟨h₁, tk₁, e₁⟩ := x.toInCall.same
  have keep := x.toInCall.keep
  have R₁ : RelG C σ s₁ := by
   rw [e₁]
   exact R.grow (fun b o e => by have := keep b o e; rw [e₁] at this; exact this)
  have hz : s.heap.objs.size ≤ s₁.heap.objs.size := Nat.le_of_lt (by have := x.toInCall.ns.lt; rw [eL] at this; exact this)
  have kt : a0 s.heap s₁.heap := fun b o e _ => keep b o e
  have vars := jg (C := C) (h := s₁.heap) env.kindOf xs vs ws aH (fun _ => Option.none) (fun _ => Option.none)
   (fun y hy => by unfold Env.kindOf; rw [eS]; exact hloc y hy) (hvs.keep kt) (fun _ _ e => by cases e)
  have lookupC : ∀ n, env.kindOf n = some .cell → ∃ c, env.cells.lookup n = some c := fun n hn => by
   rw [eC]; exact cu _ _ _ (.inl (by unfold Env.kindOf at hn; rw [eS] at hn; exact hn))
  have lookupF : ∀ n, env.kindOf n = some .cell ∨ env.kindOf n = some .free → ∃ c, env.cells.lookup n = some c := fun n hn => hn.elim (lookupC n) fun z => by
   unfold Env.kindOf at z; rw [eS] at z; exact absurd rfl (hfr _ (mem_of_lookup z))
  have fresh : ∀ c, s.heap.objs.size ≤ c → C.hB.get? c = Option.none := fun c hc => R.baseNone (aA hc)
  have F₁ : FrameRel C env (aC xs vs aH) σ s₁.heap := by
   refine ⟨⟨_, x.toInCall.ns, fun y v e ky => ?_⟩, fun y v e => ?_, fun n c hc => ?_, R.freshNone (aA (Nat.le_of_eq eL.symm)), fresh _ (Nat.le_of_eq eL.symm), fun n c hc => ?_, x.apart, lookupF⟩
   ·rcases vars y v e with ⟨_, w, h1, h2⟩ | ⟨z, _⟩
    ·exact ⟨w, h1, h2⟩
    ·rw [z] at ky; cases ky
   ·rcases vars y v e with ⟨z, _⟩ | ⟨z, w, h1, h2⟩
    ·exact .inl z
    ·obtain ⟨c, hc⟩ := lookupC _ z
     exact .inr ⟨.inl z, c, w, hc, h1 ▸ x.cell _ c hc, h2⟩
   ·exact ⟨_, x.cell n c hc⟩
   ·exact fresh c (Nat.le_of_lt (by have := x.above n c (mem_of_lookup hc); rw [eL] at this; exact this))
  refine hT.run env _ s₁ _ σ _ _ _ en ⟨by show A.handled = _; exact ao.handled, by show A.depth + 1 + 3 * j + 3 < _; exact ye ao.depth (by decide), by show A.units + 3 + 10 * j + 20 < _; exact ye ao.units (by decide)⟩ R₁ F₁ q fun fl g m' σ' s' hf R' F' S' q' => ?_
  have S₀ : Step no σ σ' s.heap s'.heap :=
   ⟨fun b o e n _ => S'.keepL b o (keep b o e) n (fun z => by
     have hlt := Heap.lt_size e
     rcases z with z | ⟨n', z⟩
     ·rw [z, eL] at hlt; exact Nat.lt_irrefl _ hlt
     ·have := x.above n' b (mem_of_lookup z); rw [eL] at this; exact Nat.lt_irrefl _ (Nat.lt_trans hlt this)),
    Nat.le_trans hz S'.size, fun b n m => Nat.le_trans hz (S'.new b n m)⟩
  cases hf with
  | next => exact hP .none .none σ' s' .none R' S₀ q'
  | ret hv => exact hP _ _ σ' s' hv R' S₀ q'
  | brk => exact q'.elim
  | cont => exact q'.elim
end
end Mine
end
noncomputable section
namespace Mine
open PySem
section
variable {C : Cx} {sc : Scope} {k : Nat}
noncomputable def aJ (es : List Expr) : Bool := es.all kE
theorem bh {es : List Expr} {env : Env} {pos : Pos} (h : aJ es = true) : (backTo pos (starEach es env)).any (·.1) = false := by
 induction es with
 | nil => rfl
 | cons e r ih =>
  simp only [aJ, List.all_cons, Bool.and_eq_true] at h
  rw [cQ h.1]
  show ((false, _) :: backTo pos (starEach r env)).any (·.1) = false
  rw [List.any_cons, ih h.2]; rfl
theorem bn {f : Value} {es : List Expr} {env : Env} {pos : Pos} {M : Model} {A : Around} {s : Shared} {Q : Args → Shared → Prop} {E : Value → Shared → Prop} (h : aJ es = true)
  (hs : wpAny M A (spliced (backTo pos (starEach es env))) (fun vs s' => Q ⟨vs, []⟩ s') E s) : wpAny M A (evalArgs f true (backTo pos (starEach es env)) []) Q E s := by
 cases es with
 | nil =>
  unfold evalArgs
  show wpAny M A (spliced [] >>= _) Q E s
  refine wpAny_bind (wpAny_mono hs (fun vs s' h' => ?_) fun _ _ x => x)
  refine wpAny_holding ?_
  exact wpAny_bind (wpAny_pure (wpAny_bind (wpAny_pure (wpAny_pure h'))))
 | cons e r =>
  simp only [aJ, List.all_cons, Bool.and_eq_true] at h
  rw [cQ h.1] at hs ⊢
  exact Calls.evalArgs_plain hs
noncomputable def aE (spec : bK) (L : LT) : ET := fun m σ Q => L m σ fun vs σ' => spec vs σ' Q
theorem tz (O : C.Ok) {f : String} {a : Addr} {o : Obj} {fd : FuncData} {np pos : Pos} {es : List Expr} {L : LT} {spec : bK} {j : Nat} (hf : FnSound C j a spec) (hj : j < k)
  (hn : sc.names.lookup (Str.ofString f) = some .globalImplicit) (hg : C.mg (Str.ofString f) = some (.ref a)) (ho : C.hB.get? a = some o) (hd : o.data = .func fd) (hdb : (Str.ofString f == ("__debug__" : Str)) = false)
  (hl : HL C sc k es L) (hp : aJ es = true) : HE C sc k (.Call (.Name (Str.ofString f) np) es [] pos) (aE spec L) := by
 refine ⟨?_⟩; intro env A s m σ Q P E en ao R F q hP
 refine wpAny_Call_NameR (Calls.Name_function_global en.k (en.of hn) (Calls.loadGlobal_global (mg := C.mg) (by rw [en.globals]; exact O.g.keeps R.base) hg ?_) hdb)
 refine Calls.callWith_function (o := o) (fd := fd) (bn hp (hl.run env A s m σ pos _ _ E en ao R F q fun vs ws σ₁ s₁ hv R₁ S₁ q₁ => ⟨⟨R₁.base _ _ ho, hd⟩, ?_⟩))
 exact wpAny_call (hf A s₁ σ₁ vs ws Q P E (ao.le hj) R₁ hv q₁ fun v w σ' s' hv' R' S' q' => hP v w σ' s' hv' R' (S₁.trans S') q')
noncomputable def mY (C : Cx) (k : Nat) (t : List Value → Sem Value) (op : bK) : Prop :=
 ∀ (A : Around) (s : Shared) (σ : ah) (vs : List V) (ws : List Value) (Q : V → ah → Prop) (P E : Value → Shared → Prop), AOk C A k → RelG C σ s → VRels C.aS s.heap vs ws → op vs σ Q → tA C σ s Q P →
  wpAny (model C.prog C.w) A (t ws) P E s
theorem cq (O : C.Ok) {f : String} {id : String} {np pos : Pos} {es : List Expr} {L : LT} {op : bK} (hop : mY C k (fun ws => PySem.call (.builtin id) ws) op)
  (hn : sc.names.lookup (Str.ofString f) = some .globalImplicit) (hg : C.mg (Str.ofString f) = Option.none) (hb : C.mb (Str.ofString f) = some (.builtin id)) (hdb : (Str.ofString f == ("__debug__" : Str)) = false)
  (hl : HL C sc k es L) (hp : aJ es = true) : HE C sc k (.Call (.Name (Str.ofString f) np) es [] pos) (aE op L) := by
 refine ⟨?_⟩; intro env A s m σ Q P E en ao R F q hP
 refine wpAny_Call_NameR (Calls.Name_function_global en.k (en.of hn) (Calls.loadGlobal_builtin (mg := C.mg) (mb := C.mb) (by rw [en.globals]; exact O.g.keeps R.base) hg (by rw [en.builtins]; exact O.b.keeps R.base) hb ?_) hdb)
 refine Calls.callWith_builtin (bh hp) (bn hp (hl.run env A s m σ pos _ _ E en ao R F q fun vs ws σ₁ s₁ hv R₁ S₁ q₁ => ?_))
 exact hop A s₁ σ₁ vs ws Q P E ao R₁ hv q₁ fun v w σ' s' hv' R' S' q' => hP v w σ' s' hv' R' (S₁.trans S') q'
theorem m8 (O : C.Ok) {f : String} {id : String} {np pos : Pos} {es : List Expr} {L : LT} {op : bK} (hop : mY C k (fun ws => PySem.call (.type id) ws) op)
  (hn : sc.names.lookup (Str.ofString f) = some .globalImplicit) (hg : C.mg (Str.ofString f) = Option.none) (hb : C.mb (Str.ofString f) = some (.type id)) (hdb : (Str.ofString f == ("__debug__" : Str)) = false)
  (hl : HL C sc k es L) (hp : aJ es = true) : HE C sc k (.Call (.Name (Str.ofString f) np) es [] pos) (aE op L) := by
 refine ⟨?_⟩; intro env A s m σ Q P E en ao R F q hP
 refine wpAny_Call_NameR (Calls.Name_function_global en.k (en.of hn) (Calls.loadGlobal_builtin (mg := C.mg) (mb := C.mb) (by rw [en.globals]; exact O.g.keeps R.base) hg (by rw [en.builtins]; exact O.b.keeps R.base) hb ?_) hdb)
 refine callWith_type (bh hp) (bn hp (hl.run env A s m σ pos _ _ E en ao R F q fun vs ws σ₁ s₁ hv R₁ S₁ q₁ => ?_))
 exact hop A s₁ σ₁ vs ws Q P E ao R₁ hv q₁ fun v w σ' s' hv' R' S' q' => hP v w σ' s' hv' R' (S₁.trans S') q'
structure It (C : Cx) (k : Nat) (I : Addr) (items : List V) (inv : ah → Prop) (St : Nat → Heap → Prop) : Prop where
 frame : ∀ i h h', St i h → (∀ o, h.get? I = some o → h'.get? I = some o) → a0 h h' → St i h'
 live : ∀ i h, St i h → ∃ o, h.get? I = some o ∧ ¬ fU o ∧ ∀ v, o.data ≠ .cell v
 flds : ∀ i h, St i h → ∀ o, h.get? I = some o → ∀ es ep, o.data ≠ .dict es ep
 next : ∀ (A : Around) (σ : ah) (s : Shared) (i : Nat) (v : V) (Q : Option Value → Shared → Prop) (E : Value → Shared → Prop), AOk C A k → RelG C σ s → inv σ → St i s.heap → items[i]? = some v →
  (∀ w h' tk, VRel C.aS h' v w → St (i + 1) h' → Heap.ExtBut I s.heap h' → Q (some w) { s with heap := h', toks := tk }) → wpAny (model C.prog C.w) A (pyNext (.ref I)) Q E s
 done : ∀ (A : Around) (σ : ah) (s : Shared) (Q : Option Value → Shared → Prop) (E : Value → Shared → Prop), AOk C A k → RelG C σ s → inv σ → St items.length s.heap →
  (∀ h' tk, Heap.ExtBut I s.heap h' → Q Option.none { s with heap := h', toks := tk }) → wpAny (model C.prog C.w) A (pyNext (.ref I)) Q E s
 self : ∀ (A : Around) (s : Shared) (i : Nat) (Q : Value → Shared → Prop) (E : Value → Shared → Prop), St i s.heap → Q (.ref I) s → wpAny (model C.prog C.w) A (pyIter (.ref I)) Q E s
 own : ∀ (A : Around) (s : Shared) (i : Nat) (t : Expr) (w : Value) (Q : Unit → Shared → Prop) (E : Value → Shared → Prop), St i s.heap → Q () s → wpAny (model C.prog C.w) A (letOwnedTupleGo t (.ref I) w) Q E s
abbrev IT := bb → ah → (List V → (ah → Prop) → ah → Prop) → Prop
structure HI (C : Cx) (sc : Scope) (k : Nat) (e : Expr) (T : IT) : Prop where
 run : ∀ (env : Env) (A : Around) (s : Shared) (m : bb) (σ : ah) (Q : List V → (ah → Prop) → ah → Prop) (P : Value → Shared → Prop) (E : Value → Shared → Prop),
  EnvOk env sc → AOk C A k → RelG C σ s → FrameRel C env m σ s.heap → T m σ Q →
  (∀ items inv I St σ' s', It C k I items inv St → St 0 s'.heap → s.heap.objs.size ≤ I → σ' I = Option.none → RelG C σ' s' → Step no σ σ' s.heap s'.heap → Q items inv σ' → P (.ref I) s') →
  wpAny (model C.prog C.w) A (eval e env) (fun x s₁ => wpAny (model C.prog C.w) A (pyIter x) P E s₁) E s
theorem cU {σ : ah} {s : Shared} {h' : Heap} {tk : Nat} {I : Addr} (R : RelG C σ s) (hx : Heap.ExtBut I s.heap h') (hσ : σ I = Option.none) (hb : C.hB.get? I = Option.none) (hI : ∃ o, s.heap.get? I = some o ∧ ¬ fU o ∧ ∀ v, o.data ≠ .cell v) :
  RelG C σ { s with heap := h', toks := tk } := by
 obtain ⟨oI, hoI, hT, _⟩ := hI
 have kt : a0 s.heap h' := fun b o e ht => hx b o (by rintro rfl; rw [hoI] at e; cases e; exact hT ht) e
 exact ⟨let ⟨_, _, d, e⟩ := R.rest; ⟨h', tk, d, by rw [e]⟩, fun b o e => hx b o (by rintro rfl; rw [hb] at e; cases e) (R.base b o e),
  fun a o e => (R.view a o e).keep kt fun o' e' => hx a o' (by rintro rfl; rw [hσ] at e; cases e) e', R.apart⟩
theorem cn {env : Env} {m : bb} {σ : ah} {s : Shared} {h' : Heap} {I : Addr} (F : FrameRel C env m σ s.heap) (hx : Heap.ExtBut I s.heap h') (hI : ∃ o, s.heap.get? I = some o ∧ ¬ fU o ∧ ∀ v, o.data ≠ .cell v) (hL : I ≠ env.locals) : FrameRel C env m σ h' := by
 obtain ⟨oI, hoI, hT, hC⟩ := hI
 have kt : a0 s.heap h' := fun b o e ht => hx b o (by rintro rfl; rw [hoI] at e; cases e; exact hT ht) e
 have kc : ∀ c v, s.heap.IsCell c v → h'.IsCell c v := fun c v ⟨o, ho, hd⟩ => ⟨o, hx c o (by rintro rfl; rw [hoI] at ho; cases ho; exact hC _ hd) ho, hd⟩
 obtain ⟨mm, hn, hm⟩ := F.ns
 refine ⟨⟨mm, hn.extBut hx (Ne.symm hL), fun y u e ky => ?_⟩, fun y u e => ?_, fun n c e => ?_, F.sepL, F.baseL, F.baseC, F.dist, F.has⟩
 ·obtain ⟨w, h1, h2⟩ := hm y u e ky; exact ⟨w, h1, h2.keep kt⟩
 ·rcases F.cel y u e with z | ⟨z, c, w', h1, h2, h3⟩
  ·exact .inl z
  ·exact .inr ⟨z, c, w', h1, kc _ _ h2, h3.keep kt⟩
 ·obtain ⟨v, hv⟩ := F.cells n c e; exact ⟨v, kc _ _ hv⟩
inductive Tgt where
 | name (x : String)
 | tup (xs : List String)
noncomputable def dJ : Tgt → V → bb → Option bb
 | .name x, v, m => some (put m x v)
 | .tup xs, .tup vs, m => if xs.length = vs.length then some (aC xs vs m) else Option.none
 | .tup _, _, _ => Option.none
noncomputable def x7 (loc : Bool) (env : Env) (b : Addr) : Prop := b = env.locals ∨ (loc = false ∧ ∃ n, env.cells.lookup n = some b)
structure HT (C : Cx) (sc : Scope) (k : Nat) (loc : Bool) (t : Expr) (g : Tgt) : Prop where
 run : ∀ (env : Env) (A : Around) (s : Shared) (m m' : bb) (σ : ah) (v : V) (w : Value) (P : Unit → Shared → Prop) (E : Value → Shared → Prop),
  EnvOk env sc → AOk C A k → RelG C σ s → FrameRel C env m σ s.heap → VRel C.aS s.heap v w → dJ g v m = some m' →
  (∀ s', RelG C σ s' → FrameRel C env m' σ s'.heap → Step (x7 loc env) σ σ s.heap s'.heap → P () s') → wpAny (model C.prog C.w) A (assign t env w) P E s
theorem aO {x : String} {pos : Pos} (hx : sc.names.lookup (Str.ofString x) = some .local) : HT C sc k true (.Name (Str.ofString x) pos) (.name x) := by
 refine ⟨?_⟩; intro env A s m m' σ v w P E en ao R F hv hb hP
 cases hb
 exact wpAny_assign_Name (cY en R F hx hv fun s' R' F' S' => hP s' R' F' (S'.mono fun _ _ _ z => .inl z))
noncomputable def fh (g : Tgt) (inv : ah → Prop) (T : ST) : List V → ST
 | [] => fun m σ Q => inv σ ∧ Q .next m σ
 | v :: r => fun m σ Q => inv σ ∧ ∃ m', dJ g v m = some m' ∧ T m' σ fun f m₁ σ₁ => match f with
  | .next => fh g inv T r m₁ σ₁ Q
  | .cont => fh g inv T r m₁ σ₁ Q
  | .brk => Q .next m₁ σ₁
  | .ret u => Q (.ret u) m₁ σ₁
noncomputable def bX (g : Tgt) (I : IT) (T : ST) : ST := fun m σ Q => I m σ fun items inv σ' => fh g inv T items m σ' Q
inductive ForInv (C : Cx) (env : Env) (σ : ah) (h : Heap) (I : Addr) (items : List V) (St : Nat → Heap → Prop) (L : List V → bb → ah → Prop) (n : Nat) (s' : Shared) : Prop
 | mk (i : Nat) (m' : bb) (σ' : ah) (rest : List V) (e1 : items.drop i = rest) (e2 : i ≤ items.length) (e3 : n = rest.length + 1) (st : St i s'.heap) (hσ : σ' I = Option.none) (R : RelG C σ' s') (F : FrameRel C env m' σ' s'.heap)
   (S : Step (fun b => kh env b ∨ b = I) σ σ' h s'.heap) (q : L rest m' σ') : ForInv C env σ h I items St L n s'
theorem bc {target iter : Expr} {body : List Stmt} {pos : Pos} {g : Tgt} {I : IT} {T : ST} {loc : Bool} (ht : HT C sc k loc target g) (hi : HI C sc k iter I) (hb : HS C sc k body T)
  (hf : ∀ env x, foldedSetIterable iter env x = pure x) : HS1 C sc k (.For target iter body [] pos) (bX g I T) := by
 refine ⟨?_⟩; intro env A s m σ Q P E en ao R F q hP
 rw [exec_For]
 refine wpAny_bind (wpAny_standAt ?_)
 have start : wpAny (model C.prog C.w) A (eval iter env) (fun x s₁ => wpAny (model C.prog C.w) A (pyIter x) (fun it s₂ => codeAny (model C.prog C.w) A (.forLoop target it body [] env) (fun r s' => match r with | .ok f => P f s' | .error e => cameBackBy (model C.prog C.w) A env E e s') s₂) E s₁) E s := by
  refine hi.run env A s m σ _ _ E en ao R F q fun items inv I St σ₀ s₀ hit st₀ hI hσ₀ R₀ S₀ q₀ => ?_
  have F₀ := F.step R S₀
  obtain ⟨mm, hn, _⟩ := F.ns
  have hIL : I ≠ env.locals := fun e => absurd hn.lt (Nat.not_lt.mpr (e ▸ hI))
  have hIb : C.hB.get? I = Option.none := R.baseNone (aA hI)
  have back : ∀ {σ' : ah} {h' : Heap}, Step (fun b => kh env b ∨ b = I) σ σ' s.heap h' → Step (kh env) σ σ' s.heap h' := fun S =>
   S.mono fun b o e z => z.elim id fun z => absurd (Heap.lt_size e) (Nat.not_lt.mpr (z ▸ hI))
  refine codeAny_forLoop_any
   (ForInv C env σ s.heap I items St fun rest m' σ' => fh g inv T rest m' σ' Q) ?_ _
   ⟨0, m, σ₀, items, by simp, by simp, rfl, st₀, hσ₀, R₀, F₀, S₀.mono fun _ _ _ z => z.elim, q₀⟩
  rintro n s' ⟨i, m', σ', rest, e1, e2, rfl, st, hσ', R', F', S', q'⟩
  have drew : ∀ {h' : Heap}, Heap.ExtBut I s'.heap h' → s'.heap.objs.size ≤ h'.objs.size → Step (fun b => kh env b ∨ b = I) σ' σ' s'.heap h' := fun hx hsz =>
   .of (fun b o e _ q => hx b o (fun z => q (.inr z)) e) hsz fun _ a b => absurd a b
  cases rest with
  | nil =>
   have hil : i = items.length := ga e1 e2
   subst hil
   refine be (hit.done A σ' s' _ _ ao R' q'.1 st fun h' tk hx hsz => ?_)
   exact wpAny_execs_nil (hP .next .next m' σ' _ .next (cU (tk := tk) R' hx hσ' hIb (hit.live _ _ st)) (cn F' hx (hit.live _ _ st) hIL) (back (S'.trans (drew hx hsz))) q'.2)
  | cons v r =>
   obtain ⟨hinv, m₁, hm₁, q'⟩ := q'
   have hiv : items[i]? = some v := by
    have : (items.drop i)[0]? = some v := by rw [e1]; rfl
    simpa using this
   have hilt : i < items.length := iB e1
   refine be (hit.next A σ' s' i v _ _ ao R' hinv st hiv fun w h₁ tk₁ hv st₁ hx hsz => ?_)
   have R₁ := cU (tk := tk₁) R' hx hσ' hIb (hit.live _ _ st)
   have F₁ := cn F' hx (hit.live _ _ st) hIL
   have S₁ := S'.trans (drew hx hsz)
   refine hit.own A _ (i + 1) target w _ _ st₁ ?_
   refine ht.run env A _ m' m₁ σ' v w _ _ en ao R₁ F₁ hv hm₁ fun s₂ R₂ F₂ S₂L => ?_
   have S₂ : Step (kh env) σ' σ' h₁ s₂.heap := S₂L.mono fun _ _ _ z => z.imp id fun z => z.2
   have S₂' : Step (fun b => kh env b ∨ b = I) σ' σ' h₁ s₂.heap := S₂.mono fun _ _ _ z => .inl z
   have st₂ : St (i + 1) s₂.heap := hit.frame _ _ _ st₁ (fun o e => S₂.keep I o e hσ' (fun z => by
    rcases z with z | ⟨n, z⟩
    ·exact hIL z
    ·obtain ⟨u, ou, hou, hdu⟩ := F₁.cells n I z
     obtain ⟨o', ho', _, hc'⟩ := hit.live _ _ st₁
     have : ou = o' := Option.some.inj (hou.symm.trans ho')
     exact hc' u (this ▸ hdu)) (hit.flds _ _ st₁ o e)) (S₂.tupsO F₁ R₁)
   refine hb.run env A s₂ m₁ σ' _ _ _ en ao R₂ F₂ q' fun f fl m₃ σ₃ s₃ hf R₃ F₃ S₃ q₃ => ?_
   have S₃' : Step (fun b => kh env b ∨ b = I) σ' σ₃ s₂.heap s₃.heap := S₃.mono fun _ _ _ z => .inl z
   have SS := (S₁.trans S₂').trans S₃'
   have go : fh g inv T r m₃ σ₃ Q → ∃ k', k' < (v :: r).length + 1 ∧ ForInv C env σ s.heap I items St (fun rest m' σ' => fh g inv T rest m' σ' Q) k' s₃ := fun q₃ => by
    refine ⟨r.length + 1, Nat.lt_succ_self _, i + 1, m₃, σ₃, r, ?_, hilt, rfl, ?_, ?_, R₃, F₃, SS, q₃⟩
    ·rw [← List.tail_drop, e1]; rfl
    ·refine hit.frame _ _ _ st₂ (fun o e => S₃.keep I o e hσ' (fun z => ?_) (hit.flds _ _ st₂ o e)) (S₃.tupsO F₂ R₂)
     rcases z with z | ⟨n, z⟩
     ·exact hIL z
     ·obtain ⟨u, ou, hou, hdu⟩ := F₂.cells n I z
      obtain ⟨o', ho', _, hc'⟩ := hit.live _ _ st₂
      have : ou = o' := Option.some.inj (hou.symm.trans ho')
      exact hc' u (this ▸ hdu)
    ·cases z : σ₃ I with
     | none => rfl
     | some o =>
      obtain ⟨o', ho', _⟩ := hit.live _ _ st₂
      exact absurd (Heap.lt_size ho') (Nat.not_lt.mpr (S₃.new I hσ' (by rw [z]; simp)))
   cases hf with
   | next => exact go q₃
   | cont => exact go q₃
   | brk => exact hP .next .next m₃ σ₃ s₃ .next R₃ F₃ (back SS) q₃
   | ret hv => exact hP _ _ m₃ σ₃ s₃ (.ret hv) R₃ F₃ (back SS) q₃
 refine wpAny_bind (wpAny_mono start (fun x s₁ h₁ => wpAny_bind (wpAny_of_eq (hf env x) (wpAny_bind (wpAny_standAt (wpAny_bind (wpAny_holding (wpAny_mono h₁ (fun it s₂ h₂ => wpAny_runOwn h₂) fun _ _ h' => h'))))))) fun _ _ h' => h')
end
end Mine
end
noncomputable section
namespace Mine
open PySem
noncomputable def Hd (A : Around) (h : Heap) : Prop := A.handled = none ∨ ∃ e o vs, A.handled = some (.ref e) ∧ h.get? e = some o ∧ o.data = .fields vs ∧ vs[2]? = some .none
section
variable {prog : Program} {w : World} {A : Around} {E : Value → Shared → Prop} {s : Shared}
theorem jF : entryFor table "proto.unchain" = some Builtin.«proto.unchain» := entryFor_of_fast (by kernel_rfl)
theorem jA : plainId "proto.unchain" = true := by decide +kernel
theorem lC {e : Addr} {x : Value} {o : Obj} {vs : Array Value} {Q : Value → Shared → Prop} (ho : s.heap.get? e = some o) (hd : o.data = .fields vs) (h2 : vs[2]? = some .none) (h : Q .none s) :
  wpAny (model prog w) A (runValue (.builtin "proto.unchain" ⟨[x, .ref e, .ref e, .bool false], []⟩)) Q E s := by
 refine wpAny_runValue (codeAny_builtin jF ?_)
 rw [Around.under_plainId jA _]
 unfold Builtin.«proto.unchain»
 dsimp only
 refine wpAny_bind (wpAny_field ho hd h2 ?_)
 rw [if_pos (by decide)]
 exact wpAny_pure h
theorem tD {Q : Option Value → Shared → Prop} {P : Fin → Shared → Prop} (hh : Hd A s.heap) (h : ∀ h', (∀ b o, s.heap.get? b = some o → h'.get? b = some o) → Q none { s with heap := h' }) :
  wpAny (model prog w) A.in1 (do
    let e ← newExc (Value.type "StopIteration") []
    raiseNew e) P (fun e s' => wpAny (model prog w) A (do
     let b ← isInstance e (Value.type "StopIteration")
     if b = true then pure none else throw e) Q E s') s := by
 refine wpAny_bind ?_
 simp only [newExc, newTuple]
 refine wpAny_bind (wpAny_newObj_type ?_ (by size_fits))
 refine wpAny_bind (m := firstArgMember _ _) (wpAny_of_eq (a := Value.none) (by first | rfl | (simp only [firstArgMember]; rfl)) ?_)
 refine wpAny_newObj_type ?_ (by size_fits)
 simp only [raiseNew]
 refine wpAny_bind (wpAny_handled ?_)
 rcases hh with hh | ⟨e, o, vs, hh, ho, hd, h2⟩
 ·rw [show A.in1.handled = none from hh]
  refine wpAny_bind (wpAny_pure (wpAny_throw ?_))
  refine wpAny_bind (wpAny_isInstance (T := "StopIteration") (b := true) ⟨_, Heap.get?_push_size _ rfl, rfl⟩ isSubtype_stop ?_)
  exact wpAny_pure (h _ fun b o e => Heap.get?_push_of_some _ (Heap.get?_push_of_some _ e))
 ·rw [show A.in1.handled = some (.ref e) from hh]
  dsimp only
  have hlt := Heap.lt_size ho
  have hne : e ≠ s.heap.objs.size + 1 := Nat.ne_of_lt (Nat.lt_succ_of_lt hlt)
  rw [Heap.size_push]
  rw [if_pos (by simp [hne])]
  have ho2 := Heap.get?_push_of_some (h := s.heap.push { cls := .type "tuple", dict := none, data := .seq ([] : List Value).toArray }) { cls := .type "StopIteration", dict := none, data := .fields (#[.ref s.heap.objs.size, .none, .none, .none, .bool false, .none] ++ ownMembersOf (.type "StopIteration") []) } (Heap.get?_push_of_some _ ho)
  refine wpAny_bind (wpAny_holding (lC ho2 hd h2 ?_))
  have hn := Heap.get?_push_size (s.heap.push { cls := .type "tuple", dict := none, data := .seq ([] : List Value).toArray }) (o := { cls := .type "StopIteration", dict := none, data := .fields (#[.ref s.heap.objs.size, .none, .none, .none, .bool false, .none] ++ ownMembersOf (.type "StopIteration") []) }) rfl
  rw [Heap.size_push] at hn
  refine wpAny_bind (show wpAny _ _ (setField (.ref (s.heap.objs.size + 1)) 2 (.ref e)) _ _ _ from wpAny_setField hn rfl (by rw [Array.size_append]; show 2 < 6 + _; exact Nat.le_add_left _ _) (wpAny_throw ?_))
  have hd3 := Obj.data_mapFields (o := { cls := .type "StopIteration", dict := none, data := .fields (#[.ref s.heap.objs.size, .none, .none, .none, .bool false, .none] ++ ownMembersOf (.type "StopIteration") []) }) rfl (·.setIfInBounds 2 (Value.ref e))
  have hn3 := Heap.get?_update_self (Obj.mapFields (·.setIfInBounds 2 (Value.ref e))) hn (Obj.isFreed_of_fields hd3)
  refine wpAny_bind (wpAny_isInstance (T := "StopIteration") (b := true) ⟨_, hn3, Obj.cls_mapFields _ _⟩ isSubtype_stop ?_)
  refine wpAny_pure (h _ fun b o e => ?_)
  rw [Heap.get?_update_other _ _ (Ne.symm (Nat.ne_of_lt (Nat.lt_succ_of_lt (Heap.lt_size e))))]
  exact Heap.get?_push_of_some _ (Heap.get?_push_of_some _ e)
theorem jM {it l : Addr} {i : Nat} {items : Array Value} {Q : Option Value → Shared → Prop} (hh : Hd A s.heap)
  (hit : s.heap.IsListIter it l i) (hl : s.heap.IsList l items) (hx : items[i]? = none) (hie : ∀ e, A.handled = some (.ref e) → e ≠ it)
  (hQ : ∀ h', Heap.ExtBut it s.heap h' → Q none { s with heap := h' }) : wpAny (model prog w) A (pyNext (.ref it)) Q E s := by
 obtain ⟨o, ho, hc, hd⟩ := id hit
 obtain ⟨ol, hol, _, nl, hdl⟩ := hl
 unfold pyNext
 refine wpAny_bind (wpAny_attempt (wpAny_callSpecial?_slot (name := Str.ofString "__next__") hit.typeIs slot_listiter_next
  (wpAny_call_entry slot_listiter_next hit.typeIs entry_listiter_next ?_ (args_listiter_next _))))
 show wpAny _ _ (field (.ref it) 0 >>= _) _ _ s
 refine wpAny_bind (wpAny_field ho hd (x := .ref l) rfl ?_)
 show wpAny _ _ (if (Value.ref l == Value.none) = true then _ else _) _ _ s
 rw [if_neg (show ¬ ((Value.ref l == Value.none) = true) from Bool.false_ne_true)]
 show wpAny _ _ (field (.ref it) 1 >>= _) _ _ s
 refine wpAny_bind (wpAny_field ho hd (x := .int i 0) rfl ?_)
 show wpAny _ _ (seqItems? (.ref l) >>= _) _ _ s
 refine wpAny_bind (wpAny_seqItems hol hdl ?_)
 simp only [Int.toNat_natCast, hx]
 refine wpAny_bind (wpAny_rule (wpAny_bind (wpAny_setField ho hd (by simp) ?_)))
 refine tD ?_ fun h' hk => hQ h' fun b o' hb e => hk b o' ((Heap.SameBut.update s.heap it _).extBut b o' hb e)
 rcases hh with hh | ⟨e, o', vs, hh, ho', hd', h2⟩
 ·exact .inl hh
 ·exact .inr ⟨e, o', vs, hh, (Heap.get?_update_other _ _ (Ne.symm (hie e hh))).trans ho', hd', h2⟩
theorem iJ {it t : Addr} {i : Nat} {items : Array Value} {Q : Option Value → Shared → Prop} (hh : Hd A s.heap)
  (hit : s.heap.IsTupleIter it t i) (ht : s.heap.IsTuple t items) (hx : items[i]? = none) (hie : ∀ e, A.handled = some (.ref e) → e ≠ it)
  (hQ : ∀ h', Heap.ExtBut it s.heap h' → Q none { s with heap := h' }) : wpAny (model prog w) A (pyNext (.ref it)) Q E s := by
 obtain ⟨o, ho, hc, hd⟩ := id hit
 obtain ⟨ol, hol, _, nl, hdl⟩ := ht
 unfold pyNext
 refine wpAny_bind (wpAny_attempt (wpAny_callSpecial?_slot (name := Str.ofString "__next__") hit.typeIs F.slot_tuple_iterator_next
  (wpAny_call_entry F.slot_tuple_iterator_next hit.typeIs F.entry_tuple_iterator_next ?_ (F.args_tuple_iterator_next_1 _))))
 show wpAny _ _ (field (.ref it) 0 >>= _) _ _ s
 refine wpAny_bind (wpAny_field ho hd (x := .ref t) rfl ?_)
 show wpAny _ _ (if (Value.ref t == Value.none) = true then _ else _) _ _ s
 rw [if_neg (show ¬ ((Value.ref t == Value.none) = true) from Bool.false_ne_true)]
 show wpAny _ _ (field (.ref it) 1 >>= _) _ _ s
 refine wpAny_bind (wpAny_field ho hd (x := .int i 0) rfl ?_)
 show wpAny _ _ (seqItems? (.ref t) >>= _) _ _ s
 refine wpAny_bind (wpAny_seqItems hol hdl ?_)
 simp only [Int.toNat_natCast, hx]
 refine wpAny_bind (wpAny_rule (wpAny_bind (wpAny_setField ho hd (by simp) ?_)))
 refine tD ?_ fun h' hk => hQ h' fun b o' hb e => hk b o' ((Heap.SameBut.update s.heap it _).extBut b o' hb e)
 rcases hh with hh | ⟨e, o', vs, hh, ho', hd', h2⟩
 ·exact .inl hh
 ·exact .inr ⟨e, o', vs, hh, (Heap.get?_update_other _ _ (Ne.symm (hie e hh))).trans ho', hd', h2⟩
theorem oP {env : Env} {elts : List Expr} {x1 : Nat} {pos : Pos} {t : Addr} {items : Array Value} {Q : Unit → Shared → Prop} (hh : Hd A s.heap) (ht : s.heap.IsTuple t items)
  (hn : (assignEach elts env).length = items.size) (hstar : (assignEach elts env).findIdx? (·.1) = none)
  (h : ∀ h', Heap.ExtBut s.heap.objs.size s.heap h' → wpAny (model prog w) A (assignInOrder ((assignEach elts env).map (·.2)) items.toList) Q E { s with heap := h' }) :
  wpAny (model prog w) A (assign (.Tuple elts x1 pos) env (.ref t)) Q E s := by
 rw [arm_assign_Tuple]
 refine wpAny_bind (wpAny_standAt ?_)
 unfold unpack
 rw [hn, hstar]
 refine wpAny_bind (wpAny_holding ?_)
 have hlt : t ≠ s.heap.objs.size := by obtain ⟨o, ho, _⟩ := ht; exact Nat.ne_of_lt (Heap.lt_size ho)
 unfold unpackItems
 refine wpAny_bind ?_
 unfold notIterableAtAll
 refine wpAny_bind (wpAny_specialOf ht.typeIs F.slot_tuple_iter.lookup ?_)
 refine wpAny_pure ?_
 simp only [Bool.false_eq_true, if_false]
 refine wpAny_bind (wpAny_holding (wpAny_pyIter_tuple ht ?_))
 refine wpAny_bind (wpAny_holding (wpAny_draw_tuple hlt items.size 0 _ _ ⟨_, Heap.get?_push_size _ rfl, rfl, rfl⟩ (ht.push _) (by exact bw fun hg => lN [(items.size)] 0x100101061 rfl hg) fun h₁ hit₁ hs₁ => ?_))
 have hall : List.take items.size (List.drop 0 items.toList) = items.toList := by
  rw [List.drop_zero]; exact List.take_of_length_le (by simp)
 rw [hall]
 rw [if_neg (by simp)]
 have ht₁ : h₁.IsTuple t items := (ht.push _).extBut hs₁.extBut hlt
 have hd₁ : Hd A h₁ := by
  rcases hh with hh | ⟨e, o', vs, hh, ho', hd', h2⟩
  ·exact .inl hh
  ·exact .inr ⟨e, o', vs, hh, hs₁.extBut e o' (Nat.ne_of_lt (Heap.lt_size ho')) (Heap.get?_push_of_some _ ho'), hd', h2⟩
 refine wpAny_bind (wpAny_holding (iJ hd₁ hit₁ ht₁ (by simp) (fun e he => ?_) fun h₂ he₂ => ?_))
 ·rcases hh with hh | ⟨e', o', vs, hh, ho', hd', h2⟩
  ·rw [hh] at he; cases he
  ·rw [hh] at he; cases he; exact Nat.ne_of_lt (Heap.lt_size ho')
 simp only [Option.isSome_none, Bool.false_eq_true, if_false]
 exact wpAny_pure (h h₂ fun b o hb e => he₂ b o hb (hs₁.extBut b o hb (Heap.get?_push_of_some _ e)))
end
end Mine
end
noncomputable section
namespace Mine
open PySem
section
variable {C : Cx} {sc : Scope} {k : Nat}
theorem b3 {I : Addr} {o : Obj} {n : String} {A : Around} {s : Shared} {t : Expr} {w : Value} {Q : Unit → Shared → Prop} {E : Value → Shared → Prop} (ho : s.heap.get? I = some o) (hc : o.cls = .type n)
  (hn : ["enumerate", "zip", "dict_itemiterator", "dict_reverseitemiterator", "odict_iterator", "itertools.zip_longest", "itertools.pairwise"].contains n = false) (q : Q () s) : wpAny (model C.prog C.w) A (letOwnedTupleGo t (.ref I) w) Q E s := by
 have fin : ∀ vs a, wpAny (model C.prog C.w) A (if (["enumerate", "zip", "dict_itemiterator", "dict_reverseitemiterator", "odict_iterator", "itertools.zip_longest", "itertools.pairwise"].contains n && (vs : Array Value)[0]? == some (rawInt a)) = true then (do rule "for.unpacks-the-owned-tuple"; updateField I 0 .none) else pure ()) Q E s := fun vs a => by
  rw [hn, Bool.false_and, if_neg Bool.false_ne_true]; exact wpAny_pure q
 cases t <;> first | exact wpAny_pure q | skip
 all_goals
  cases w <;> first | exact wpAny_pure q | skip
  refine wpAny_bind (wpAny_load ho ?_)
  rw [hc]
  cases hd : o.data <;> first | exact wpAny_pure q | exact fin _ _
theorem AOk.hd {A : Around} {σ : ah} {s : Shared} (ao : AOk C A k) (O : C.Ok) (R : RelG C σ s) : Hd A s.heap := by
 cases z : C.held with
 | none => exact .inl (ao.none z)
 | some e =>
  obtain ⟨o, vs, h1, h2, h3⟩ := O.heldOk e z
  exact .inr ⟨e, o, vs, by rw [ao.handled, z]; rfl, R.base _ _ h1, h2, h3⟩
theorem AOk.ne {A : Around} {σ : ah} {s : Shared} {I : Addr} {oI : Obj} {a b : Value} (ao : AOk C A k) (O : C.Ok) (R : RelG C σ s) (hI : s.heap.get? I = some oI) (hd : oI.data = .fields #[a, b]) : ∀ e, A.handled = some (.ref e) → e ≠ I := by
 rintro e he rfl
 rw [ao.handled] at he
 cases z : C.held with
 | none => rw [z] at he; cases he
 | some e' =>
  rw [z] at he; cases he
  obtain ⟨o, vs, h1, h2, h3⟩ := O.heldOk _ z
  have := R.base _ _ h1
  rw [hI] at this; cases this
  rw [hd] at h2; cases h2; cases h3
theorem sH (O : C.Ok) (I a : Addr) (xs : List V) : It C k I xs (fun σ => σ a = some (.list xs)) (fun i h => h.IsListIter I a i) where
 frame := fun i h h' st kI _ => st.at kI
 live := fun i h ⟨o, ho, hc, hd⟩ => ⟨o, ho, (fun ⟨_, _, _, h2, _⟩ => by rw [hd] at h2; cases h2), (fun v h2 => by rw [hd] at h2; cases h2)⟩
 flds := fun i h ⟨o, ho, hc, hd⟩ o' ho' es ep z => by rw [ho] at ho'; cases ho'; rw [hd] at z; cases z
 next := fun A σ s i v Q E ao R inv st hv hQ => by
  obtain ⟨_, ws, h1, h2⟩ := R.view a _ inv
  obtain ⟨w, hw, hr⟩ := h2.get hv
  refine wpAny_pyNext_list_item st h1.isList (x := w) (by simpa using hw) fun h' st' hs' => hQ w h' s.toks (hr.keep ?_) st' hs'.extBut
  obtain ⟨o, ho, hc, hd⟩ := st
  exact fun b ob e ht => hs'.extBut b ob (by rintro rfl; rw [ho] at e; cases e; obtain ⟨_, _, _, h2, _⟩ := ht; rw [hd] at h2; cases h2) e
 done := fun A σ s Q E ao R inv st hQ => by
  obtain ⟨_, ws, h1, h2⟩ := R.view a _ inv
  obtain ⟨oI, hoI, _, hdI⟩ := id st
  exact jM (ao.hd O R) st h1.isList (by have := h2.length; simp [this]) (ao.ne O R hoI hdI) fun h' hx => hQ h' s.toks hx
 self := fun A s i Q E st q => wpAny_pyIter_listiter st q
 own := fun A s i t w Q E ⟨o, ho, hc, hd⟩ q => b3 ho hc (by decide) q
theorem pT (O : C.Ok) (I : Addr) : It C k I (C.ns.map .int) (fun _ => True) (fun i h => h.IsListIter I C.aS i) where
 frame := fun i h h' st kI _ => st.at kI
 live := fun i h ⟨o, ho, hc, hd⟩ => ⟨o, ho, (fun ⟨_, _, _, h2, _⟩ => by rw [hd] at h2; cases h2), (fun v h2 => by rw [hd] at h2; cases h2)⟩
 flds := fun i h ⟨o, ho, hc, hd⟩ o' ho' es ep z => by rw [ho] at ho'; cases ho'; rw [hd] at z; cases z
 next := fun A σ s i v Q E ao R inv st hv hQ => by
  obtain ⟨ws, h1, h2, h3⟩ := O.script
  rw [List.getElem?_map] at hv
  obtain ⟨n, hn, rfl⟩ := Option.map_eq_some_iff.mp hv
  obtain ⟨t, ht⟩ := h3 i n hn
  refine wpAny_pyNext_list_item st (h1.at fun o e => R.base _ _ e) (x := .int n t) (by simpa using ht) fun h' st' hs' => hQ _ h' s.toks (.int n t) st' hs'.extBut
 done := fun A σ s Q E ao R inv st hQ => by
  obtain ⟨ws, h1, h2, h3⟩ := O.script
  obtain ⟨oI, hoI, _, hdI⟩ := id st
  exact jM (ao.hd O R) st (h1.at fun o e => R.base _ _ e) (by simp at h2; simp [h2]) (ao.ne O R hoI hdI) fun h' hx => hQ h' s.toks hx
 self := fun A s i Q E st q => wpAny_pyIter_listiter st q
 own := fun A s i t w Q E ⟨o, ho, hc, hd⟩ q => b3 ho hc (by decide) q
theorem uF (O : C.Ok) (I a : Addr) (vs : List V) (ws : List Value) (hb : xh ws = true) : It C k I vs (fun _ => True) (fun i h => h.IsTupleIter I a i ∧ h.IsTuple a ws.toArray ∧ VRels C.aS h vs ws) where
 frame := fun i h h' st kI kt => ⟨st.1.at kI, let ⟨o, ho, hc, n, r⟩ := st.2.1; ⟨o, kt a o ho ⟨hc, _, n, r, hb⟩, hc, n, r⟩, st.2.2.keep kt⟩
 live := fun i h ⟨⟨o, ho, hc, hd⟩, _⟩ => ⟨o, ho, (fun ⟨_, _, _, h2, _⟩ => by rw [hd] at h2; cases h2), (fun v h2 => by rw [hd] at h2; cases h2)⟩
 flds := fun i h ⟨⟨o, ho, hc, hd⟩, _⟩ o' ho' es ep z => by rw [ho] at ho'; cases ho'; rw [hd] at z; cases z
 next := fun A σ s i v Q E ao R inv st hv hQ => by
  obtain ⟨w, hw, hr⟩ := st.2.2.get hv
  obtain ⟨o, ho, hc, hd⟩ := id st.1
  have kt : ∀ h', Heap.SameBut I s.heap h' → a0 s.heap h' := fun h' hs' b ob e ht => hs'.extBut b ob (by rintro rfl; rw [ho] at e; cases e; obtain ⟨_, _, _, h2, _⟩ := ht; rw [hd] at h2; cases h2) e
  refine wpAny_pyNext_tuple_item st.1 st.2.1 (x := w) (by simpa using hw) fun h' st' hs' => hQ w h' s.toks (hr.keep (kt h' hs')) ⟨st', ?_, st.2.2.keep (kt h' hs')⟩ hs'.extBut
  obtain ⟨o, ho, hc, n, r⟩ := st.2.1
  exact ⟨o, kt h' hs' a o ho ⟨hc, _, n, r, hb⟩, hc, n, r⟩
 done := fun A σ s Q E ao R inv st hQ => iJ (ao.hd O R) st.1 st.2.1 (by have := st.2.2.length; simp [this]) (let ⟨_, hoI, _, hdI⟩ := st.1; ao.ne O R hoI hdI) fun h' hx => hQ h' s.toks hx
 self := fun A s i Q E st q => wpAny_pyIter_tupleiter st.1 q
 own := fun A s i t w Q E ⟨⟨o, ho, hc, hd⟩, _⟩ q => b3 ho hc (by decide) q
noncomputable def fj (x : Str) : List V := x.cps.toList.map fun c => .str ⟨#[c]⟩
theorem rn (hz : C.held = none) (I : Addr) (cls : String) (x : Str) (t : Tok) (hcls : cls = "str_ascii_iterator" ∨ cls = "str_iterator") : It C k I (fj x) (fun _ => True) (fun i h => h.IsStrIter I cls x t i) where
 frame := fun i h h' ⟨o, ho, r⟩ kI _ => ⟨o, kI o ho, r⟩
 live := fun i h ⟨o, ho, hc, hd⟩ => ⟨o, ho, (fun ⟨_, _, _, h2, _⟩ => by rw [hd] at h2; cases h2), (fun v h2 => by rw [hd] at h2; cases h2)⟩
 flds := fun i h ⟨o, ho, hc, hd⟩ o' ho' es ep z => by rw [ho] at ho'; cases ho'; rw [hd] at z; cases z
 next := fun A σ s i v Q E ao R inv st hv hQ => by
  unfold fj at hv
  rw [List.getElem?_map] at hv
  obtain ⟨c, hc, rfl⟩ := Option.map_eq_some_iff.mp hv
  rcases hcls with rfl | rfl
  ·exact wpAny_pyNext_ascii_item st (c := c) (by simpa using hc) fun h' st' hs' => hQ _ h' _ (.str _ _) st' hs'.extBut
  ·exact wpAny_pyNext_wide_item st (c := c) (by simpa using hc) fun h' st' hs' => hQ _ h' _ (.str _ _) st' hs'.extBut
 done := fun A σ s Q E ao R inv st hQ => by
  rcases hcls with rfl | rfl
  ·exact wpAny_pyNext_ascii_end (ao.none hz) st (by simp [fj]) fun h' hx => hQ h' s.toks hx
  ·exact wpAny_pyNext_wide_end (ao.none hz) st (by simp [fj]) fun h' hx => hQ h' s.toks hx
 self := fun A s i Q E st q => by
  rcases hcls with rfl | rfl
  ·exact wpAny_pyIter_striter_ascii st q
  ·exact wpAny_pyIter_striter_wide st q
 own := fun A s i t w Q E ⟨o, ho, hc, hd⟩ q => by
  rcases hcls with rfl | rfl
  ·exact b3 ho hc (by decide) q
  ·exact b3 ho hc (by decide) q
theorem sJ (hz : C.held = none) (I d : Addr) (kvs : List (Str × V)) (ep : Nat) : It C k I (kvs.map fun p => .str p.1) (fun σ => σ d = some (.dict kvs ep)) (fun i h => h.IsKeyIter I d i kvs.length ep) where
 frame := fun i h h' st kI _ => st.at kI
 live := fun i h ⟨o, ho, hc, hd⟩ => ⟨o, ho, (fun ⟨_, _, _, h2, _⟩ => by rw [hd] at h2; cases h2), (fun v h2 => by rw [hd] at h2; cases h2)⟩
 flds := fun i h ⟨o, ho, hc, hd⟩ o' ho' es ep z => by rw [ho] at ho'; cases ho'; rw [hd] at z; cases z
 next := fun A σ s i v Q E ao R inv st hv hQ => by
  obtain ⟨_, kws, h1, h2⟩ := R.view d _ inv
  rw [List.getElem?_map] at hv
  obtain ⟨⟨key, u⟩, hku, rfl⟩ := Option.map_eq_some_iff.mp hv
  obtain ⟨w, hw, _⟩ := PRel.get h2 hku
  have st' : s.heap.IsKeyIter I d i kws.length ep := by rw [← h2.length]; exact st
  refine wpAny_pyNext_dict_item st' h1 hw fun kv h' hkey hit' hs' => hQ kv h' s.toks ?_ (by rw [h2.length]; exact hit') hs'.extBut
  cases kv with
  | str y t =>
   have : y = key := by simpa [strKind, Value.isStrOf] using hkey
   subst this; exact .str _ _
  | _ => simp [strKind, Value.isStrOf] at hkey
 done := fun A σ s Q E ao R inv st hQ => by
  obtain ⟨_, kws, h1, h2⟩ := R.view d _ inv
  have e : (kvs.map fun p : Str × V => V.str p.1).length = kws.length := by rw [List.length_map, h2.length]
  have st' : s.heap.IsKeyIter I d kws.length kws.length ep := by rw [← e]; simpa using st
  exact wpAny_pyNext_dict_end (ao.none hz) st' h1 (by simp) fun h' hx => hQ h' s.toks hx
 self := fun A s i Q E st q => wpAny_pyIter_keyiter st q
 own := fun A s i t w Q E ⟨o, ho, hc, hd⟩ q => b3 ho hc (by decide) q
noncomputable def ca (a : Int) (n : Nat) : List V := (List.range n).map fun (i : Nat) => .int (a + i)
theorem ro (hz : C.held = none) (I : Addr) (a : Int) (n : Nat) : It C k I (ca a n) (fun _ => True) (fun i h => IsRangeIter h I (a + (i : Nat) * 1) ((n : Int) - (i : Nat)) 1) where
 frame := fun i h h' st kI _ => kI _ st
 live := fun i h st => ⟨_, st, fun ⟨_, _, _, h2⟩ => by simp at h2, fun v h2 => by simp at h2⟩
 flds := fun i h st o' ho' es ep z => by rw [st] at ho'; cases ho'; cases z
 next := fun A σ s i v Q E ao R inv st hv hQ => by
  unfold ca at hv
  rw [List.getElem?_map] at hv
  obtain ⟨j, hj, rfl⟩ := Option.map_eq_some_iff.mp hv
  have hjn := List.getElem?_eq_some_iff.mp hj
  obtain ⟨hlt, hji⟩ := hjn
  simp at hji hlt
  subst hji
  refine wpAny_pyNext_range_item st (Int.sub_pos_of_lt (Int.ofNat_lt.mpr hlt)) fun h' hit' hs' => ?_
  have e1 : a + ((i + 1 : Nat) : Int) * 1 = a + (i : Int) * 1 + 1 := by rw [Int.mul_one, Int.mul_one, Int.add_assoc]; rfl
  have e2 : (n : Int) - ((i + 1 : Nat) : Int) = (n : Int) - (i : Int) - 1 := by rw [Int.sub_sub]; rfl
  refine hQ _ h' _ ?_ (by rw [e1, e2]; exact hit') hs'.extBut
  rw [Int.mul_one]; exact .int _ _
 done := fun A σ s Q E ao R inv st hQ => wpAny_pyNext_range_end (ao.none hz) st (by simp [ca]) fun h' hx => hQ h' s.toks hx
 self := fun A s i Q E st q => wpAny_pyIter_rangeiter st q
 own := fun A s i t w Q E st q => b3 st rfl (by decide) q
noncomputable def iz (a : Addr) (σ : ah) (Q : List V → (ah → Prop) → ah → Prop) (o : Option AObj) : Prop := match o with
 | some (.list xs) => Q xs (fun σ => σ a = some (.list xs)) σ
 | some (.dict kvs ep) => Q (kvs.map fun p => .str p.1) (fun σ => σ a = some (.dict kvs ep)) σ
 | _ => False
noncomputable def gJ (ns : List Int) : V → ah → (List V → (ah → Prop) → ah → Prop) → Prop
 | .str x, σ, Q => Q (fj x) (fun _ => True) σ
 | .tup vs, σ, Q => Q vs (fun _ => True) σ
 | .script, σ, Q => Q (ns.map .int) (fun _ => True) σ
 | .ref a, σ, Q => iz a σ Q (σ a)
 | _, _, _ => False
noncomputable def eY (ns : List Int) (T : ET) : IT := fun m σ Q => T m σ fun v σ' => gJ ns v σ' Q
theorem bq (O : C.Ok) (hz : C.held = none) {e : Expr} {T : ET} (he : HE C sc k e T) : HI C sc k e (eY C.ns T) := by
 refine ⟨?_⟩; intro env A s m σ Q P E en ao R F q hP
 refine he.run env A s m σ _ _ E en ao R F q fun v w σ₁ s₁ hv R₁ S₁ q₁ => ?_
 have fr : s.heap.objs.size ≤ s₁.heap.objs.size := S₁.size
 have hn := R₁.freshNone (bC s₁.heap)
 have Rp : ∀ o, RelG C σ₁ { s₁ with heap := s₁.heap.push o } := fun o => R₁.grow (tk := s₁.toks) aV
 have Sp : ∀ o, Step no σ σ₁ s.heap (s₁.heap.push o) := fun o => S₁.trans .push
 cases hv with
 | none => exact q₁.elim
 | bool => exact q₁.elim
 | int => exact q₁.elim
 | ty => exact q₁.elim
 | str x t =>
  cases ha : x.cps.all (· < 128)
  ·exact wpAny_pyIter_wide ha (hP _ _ _ _ σ₁ _ (rn hz _ "str_iterator" x t (.inr rfl)) ⟨_, Heap.get?_push_size _ rfl, rfl, rfl⟩ fr hn (Rp _) (Sp _) q₁)
  ·exact wpAny_pyIter_ascii ha (hP _ _ _ _ σ₁ _ (rn hz _ "str_ascii_iterator" x t (.inl rfl)) ⟨_, Heap.get?_push_size _ rfl, rfl, rfl⟩ fr hn (Rp _) (Sp _) q₁)
 | script =>
  obtain ⟨ws, h1, h2, h3⟩ := O.script
  exact wpAny_pyIter_list (h1.at fun o e => R₁.base _ _ e) (hP _ _ _ _ σ₁ _ (pT O _) ⟨_, Heap.get?_push_size _ rfl, rfl, rfl⟩ fr hn (Rp _) (Sp _) q₁)
 | tup ht hvs hb =>
  exact wpAny_pyIter_tuple ht (hP _ _ _ _ σ₁ _ (uF O _ _ _ _ hb) ⟨⟨_, Heap.get?_push_size _ rfl, rfl, rfl⟩, ht.push _, hvs.keep fun _ _ e _ => aV _ _ e⟩ fr hn (Rp _) (Sp _) q₁)
 | ref a =>
  replace q₁ : iz a σ₁ Q (σ₁ a) := q₁
  cases hx : σ₁ a with
  | none => rw [hx] at q₁; exact False.elim q₁
  | some o =>
  rw [hx] at q₁
  cases o <;> first | exact False.elim q₁ | skip
  ·rename_i xs
   obtain ⟨_, ws, h1, h2⟩ := R₁.view a _ hx
   exact wpAny_pyIter_list h1.isList (hP _ _ _ _ σ₁ _ (sH O _ a xs) ⟨_, Heap.get?_push_size _ rfl, rfl, rfl⟩ fr hn (Rp _) (Sp _) q₁)
  ·rename_i kvs ep
   obtain ⟨_, kws, h1, h2⟩ := R₁.view a _ hx
   refine wpAny_pyIter_dict (O.noMods (R₁.apart a (by rw [hx]; simp))) h1 (hP _ _ _ _ σ₁ _ (sJ hz _ a kvs ep) ⟨_, Heap.get?_push_size _ rfl, rfl, by rw [← h2.length]; rfl⟩ fr hn (Rp _) (Sp _) q₁)
noncomputable def iw : List V → ah → (List V → (ah → Prop) → ah → Prop) → Prop
 | v :: r, σ, Q => isI v fun a => match r with
  | [] => (-(2 ^ 62) ≤ a ∧ a < 2 ^ 62) ∧ Q (ca 0 a.toNat) (fun _ => True) σ
  | u :: r => on1 (u :: r) fun u => isI u fun b => (-(2 ^ 62) ≤ a ∧ a < 2 ^ 62 ∧ -(2 ^ 62) ≤ b ∧ b < 2 ^ 62) ∧ Q (ca a (b - a).toNat) (fun _ => True) σ
 | _, _, _ => False
noncomputable def dB (L : LT) : IT := fun m σ Q => L m σ fun vs σ' => iw vs σ' Q
theorem rY (O : C.Ok) (hz : C.held = none) {np pos : Pos} {es : List Expr} {L : LT} (hl : HL C sc k es L) (hp : aJ es = true)
  (hn : sc.names.lookup (Str.ofString "range") = some .globalImplicit) (hg : C.mg (Str.ofString "range") = Option.none) (hb : C.mb (Str.ofString "range") = some (.type "range")) :
  HI C sc k (.Call (.Name (Str.ofString "range") np) es [] pos) (dB L) := by
 refine ⟨?_⟩; intro env A s m σ Q P E en ao R F q hP
 refine wpAny_Call_NameR (Calls.Name_function_global en.k (en.of hn) (Calls.loadGlobal_builtin (mg := C.mg) (mb := C.mb) (by rw [en.globals]; exact O.g.keeps R.base) hg (by rw [en.builtins]; exact O.b.keeps R.base) hb ?_) (by decide))
 refine callWith_type (bh hp) (bn hp (hl.run env A s m σ pos _ _ E en ao R F q fun vs ws σ₁ s₁ hv R₁ S₁ q₁ => ?_))
 have fr : s.heap.objs.size ≤ s₁.heap.objs.size + 1 := Nat.le_succ_of_le S₁.size
 have hσ : σ₁ (s₁.heap.objs.size + 1) = Option.none := R₁.freshNone (aA (Nat.le_succ _))
 have go : ∀ (a b : Int) (o : Obj) (tk : Nat) (t u v : Tok), -(2 ^ 62) ≤ a → a < 2 ^ 62 → -(2 ^ 62) ≤ b → b < 2 ^ 62 → o = { cls := .type "range", data := .fields #[.int a t, .int b u, .int 1 v] } → Q (ca a (b - a).toNat) (fun _ => True) σ₁ →
   wpAny (model C.prog C.w) A (pyIter (.ref s₁.heap.objs.size)) P E { s₁ with heap := s₁.heap.push o, toks := tk } := by
  rintro a b o tk t u v h1 h2 h3 h4 rfl q₁
  refine wpAny_pyIter_range (IsRange.new ..) (small_one h1 h2 h3 h4) ?_
  have hsz : Builtin.Range.rangeSize a b 1 = ((b - a).toNat : Int) := by rw [rangeSize_one]; split <;> omega
  have hit := ro (C := C) (k := k) hz (s₁.heap.objs.size + 1) a (b - a).toNat
  have R₂ : RelG C σ₁ { s₁ with heap := (s₁.heap.push { cls := .type "range", data := .fields #[.int a t, .int b u, .int 1 v] }).push { cls := .type "range_iterator", data := .fields #[rawInt a, rawInt (Builtin.Range.rangeSize a b 1), rawInt 1] }, toks := tk } :=
   R₁.grow fun _ _ e => aV _ _ (aV _ _ e)
  have e := Heap.get?_push_size (s₁.heap.push { cls := .type "range", data := .fields #[.int a t, .int b u, .int 1 v] }) (o := { cls := .type "range_iterator", data := .fields #[rawInt a, rawInt (Builtin.Range.rangeSize a b 1), rawInt 1] }) rfl
  rw [Heap.size_push] at e
  have this := hP _ _ _ _ σ₁ _ hit (by
    show IsRangeIter ((s₁.heap.push { cls := .type "range", data := .fields #[.int a t, .int b u, .int 1 v] }).push { cls := .type "range_iterator", data := .fields #[rawInt a, rawInt (Builtin.Range.rangeSize a b 1), rawInt 1] }) _ _ _ _
    unfold IsRangeIter
    rw [e, hsz]; simp) fr hσ R₂ ((S₁.trans .push).trans .push) q₁
  rw [Heap.size_push]
  exact this
 show wpAny _ A (PySem.call (.type "range") ([] ++ ws)) _ _ _
 rw [List.nil_append]
 cases hv with
 | nil => exact False.elim q₁
 | cons h1 r =>
  obtain ⟨n, rfl, q₂⟩ := isI.elim q₁
  clear q₁
  cases h1 with | int _ t =>
  cases r with
  | nil =>
   have q₁ := q₂
   refine call_range_1 (go 0 _ _ _ _ _ _ (by decide) (by decide) q₁.1.1 q₁.1.2 rfl ?_)
   rw [Int.sub_zero]; exact q₁.2
  | cons h2 r =>
   obtain ⟨u, e, q₃⟩ := on1.elim q₂
   cases e
   obtain ⟨b, rfl, q₁⟩ := isI.elim q₃
   cases r with | nil => cases h2 with | int _ u =>
   exact call_range_2 (go _ _ _ _ _ _ _ q₁.1.1 q₁.1.2.1 q₁.1.2.2.1 q₁.1.2.2.2 rfl q₁.2)
end
end Mine
end
noncomputable section
namespace Mine
open PySem
noncomputable def jy (cells : List (Str × Addr)) : List (Str × NameKind) → List (Str × Addr) → List (Str × Addr)
 | [], acc => acc
 | (n, q) :: r, acc => if q == .free then jy cells r ((n, (cells.lookup n).getD 0) :: acc) else jy cells r acc
theorem ja {env : Env} {scope : Scope} (h : ∀ p ∈ scope.names, p.2 = .free → ∃ c, env.cells.lookup p.1 = some c) : closureFor scope env = pure (jy env.cells scope.names []) := by
 unfold closureFor
 have key : ∀ (l : List (Str × NameKind)) (acc : List (Str × Addr)), (∀ p ∈ l, p.2 = .free → ∃ c, env.cells.lookup p.1 = some c) →
   (forIn l acc fun p r => (if (p.2 == NameKind.free) = true then do let c ← cellOf env p.1; pure (ForInStep.yield ((p.1, c) :: r)) else pure (ForInStep.yield r) : Sem (ForInStep (List (Str × Addr))))) = pure (jy env.cells l acc) := by
  intro l
  induction l with
  | nil => intro acc _; rfl
  | cons p r ih =>
   intro acc hp
   rw [List.forIn_cons]
   obtain ⟨n, q⟩ := p
   unfold jy
   cases hq : (q == NameKind.free) with
   | true =>
    obtain ⟨c, hc⟩ := hp (n, q) (.head _) (by simpa using hq)
    simp only [cellOf, hc, if_true, pure_bind, Option.getD_some]
    exact ih _ fun p hp' => hp p (.tail _ hp')
   | false =>
    simp only [Bool.false_eq_true, if_false, pure_bind]
    exact ih _ fun p hp' => hp p (.tail _ hp')
 have := key scope.names [] h
 simpa using congrArg (fun t => t >>= fun cs => (pure cs : Sem _)) this
theorem jb {cells : List (Str × Addr)} : ∀ (l : List (Str × NameKind)) (acc : List (Str × Addr)), (∀ p ∈ l, p.2 = .free → ∃ c, cells.lookup p.1 = some c) → ∀ n,
  ((jy cells l acc).lookup n = if (n, NameKind.free) ∈ l then cells.lookup n else acc.lookup n)
 | [], acc, _, n => by simp [jy]
 | (y, q) :: r, acc, h, n => by
  unfold jy
  have ih := fun acc => jb r acc (fun p hp => h p (.tail _ hp)) n
  cases hq : (q == NameKind.free) with
  | true =>
   have hq' : q = .free := by simpa using hq
   obtain ⟨c, hc⟩ := h (y, q) (.head _) hq'
   rw [if_pos rfl, ih]
   subst hq'
   by_cases hr : (n, NameKind.free) ∈ r
   ·simp [hr]
   ·rw [if_neg hr]
    by_cases hy : n = y
    ·subst hy; simp [hc]
    ·have : (n == y) = false := by simp [hy]
     simp [hr, hy, List.lookup_cons, this]
  | false =>
   have hq' : q ≠ .free := by simpa using hq
   rw [if_neg Bool.false_ne_true, ih]
   have : ((n, NameKind.free) ∈ (y, q) :: r) ↔ (n, NameKind.free) ∈ r := by simp [Ne.symm hq']
   simp [this]
theorem jc {cells : List (Str × Addr)} (hd : cells.Pairwise fun x y => x.2 ≠ y.2) : ∀ (l : List (Str × NameKind)) (acc : List (Str × Addr)), (∀ p ∈ l, p.2 = .free → ∃ c, cells.lookup p.1 = some c) → (l.map (·.1)).Nodup →
  (∀ p ∈ acc, cells.lookup p.1 = some p.2 ∧ p.1 ∉ l.map (·.1)) → acc.Pairwise (fun x y => x.2 ≠ y.2) → (jy cells l acc).Pairwise fun x y => x.2 ≠ y.2
 | [], acc, _, _, _, h => by simpa [jy] using h
 | (y, q) :: r, acc, h, hn, ha, hp => by
  unfold jy
  rw [List.map_cons, List.nodup_cons] at hn
  cases hq : (q == NameKind.free) with
  | true =>
   obtain ⟨c, hc⟩ := h (y, q) (.head _) (by simpa using hq)
   rw [if_pos rfl]
   refine jc hd r _ (fun p hp => h p (.tail _ hp)) hn.2 ?_ ?_
   ·intro p hp'
    rcases List.mem_cons.mp hp' with rfl | hp'
    ·exact ⟨by simp [hc], hn.1⟩
    ·exact ⟨(ha p hp').1, fun z => (ha p hp').2 (.tail _ z)⟩
   ·refine List.pairwise_cons.mpr ⟨fun p hp' e => ?_, hp⟩
    rw [hc] at e
    simp only [Option.getD_some] at e
    have := name_of_addr hd (mem_of_lookup hc) (mem_of_lookup (e ▸ (ha p hp').1))
    exact (ha p hp').2 (by rw [← this]; exact .head _)
  | false =>
   rw [if_neg Bool.false_ne_true]
   exact jc hd r acc (fun p hp => h p (.tail _ hp)) hn.2 (fun p hp' => ⟨(ha p hp').1, fun z => (ha p hp').2 (.tail _ z)⟩) hp
noncomputable def dU (sc : Scope) (n : Str) (q : NameKind) : NameKind := if (q == .free && sc.kind == .function && sc.names.lookup n == some .cell) then .cell else q
noncomputable def dW (sc scope : Scope) : Scope := { scope with names := scope.names.map fun p => (p.1, dU sc p.1 p.2) }
theorem nu {cs : Scope} {env : Env} : relabel cs env = dW env.scope cs := by
 unfold relabel dW Env.kindOf dU
 congr 1
 refine List.map_congr_left fun p _ => ?_
 obtain ⟨n, q⟩ := p
 dsimp only
 split <;> rfl
theorem dz {sc : Scope} : ∀ (l : List (Str × NameKind)) (n : Str), (l.map fun p => (p.1, dU sc p.1 p.2)).lookup n = (l.lookup n).map (dU sc n)
 | [], n => rfl
 | (y, q) :: r, n => by
  rw [List.map_cons, List.lookup_cons, List.lookup_cons]
  by_cases hy : n = y
  ·subst hy; simp
  ·have hb : (n == y) = false := by simp [hy]
   simp only [hb]
   exact dz r n
theorem pA {sc : Scope} {l : List (Str × NameKind)} {n : Str} (h : l.lookup n = some .free) : (l.map fun p => (p.1, dU sc p.1 p.2)).lookup n = some .cell ∨ (l.map fun p => (p.1, dU sc p.1 p.2)).lookup n = some .free := by
 rw [dz, h, Option.map_some]
 unfold dU
 split
 ·exact .inl rfl
 ·exact .inr rfl
theorem pB {sc : Scope} {l : List (Str × NameKind)} {n : Str} (h : (l.map fun p => (p.1, dU sc p.1 p.2)).lookup n = some .cell) : (n, NameKind.free) ∈ l ∨ (n, NameKind.cell) ∈ l := by
 rw [dz] at h
 obtain ⟨q, hq, e⟩ := Option.map_eq_some_iff.mp h
 unfold dU at e
 split at e
 ·rename_i hc
  have : q = .free := by simp at hc; exact hc.1.1
  subst this
  exact .inl (mem_of_lookup hq)
 ·subst e; exact .inr (mem_of_lookup hq)
theorem kC {sc : Scope} {l : List (Str × NameKind)} {n : Str} (h : (l.map fun p => (p.1, dU sc p.1 p.2)).lookup n = some .free) : (n, NameKind.free) ∈ l := by
 rw [dz] at h
 obtain ⟨q, hq, e⟩ := Option.map_eq_some_iff.mp h
 unfold dU at e
 split at e
 ·cases e
 ·subst e; exact mem_of_lookup hq
section
variable {C : Cx} {sc : Scope} {k : Nat}
structure HTs (C : Cx) (sc : Scope) (k : Nat) (ifs : List Expr) (B : BT) : Prop where
 run : ∀ (env : Env) (A : Around) (s : Shared) (m : bb) (σ : ah) (Q : Bool → ah → Prop) (P : Bool → Shared → Prop) (E : Value → Shared → Prop),
  EnvOk env sc → AOk C A k → RelG C σ s → FrameRel C env m σ s.heap → B m σ Q →
  (∀ b σ' s', RelG C σ' s' → Step no σ σ' s.heap s'.heap → Q b σ' → P b s') →
  wpAny (model C.prog C.w) A (forIn ifs true fun c r => if r = true then do let ok ← isTrue c env (eval c env); pure (ForInStep.yield ok) else pure (ForInStep.yield r)) P E s
theorem dI : HTs C sc k [] tT := ⟨fun _ _ s _ σ _ _ _ _ _ R _ q hP => wpAny_tests_nil (hP true σ s R Step.refl q)⟩
theorem gw {c : Expr} {B : BT} (h : HB C sc k c B) : HTs C sc k [c] B := ⟨fun env A s m σ Q P E en ao R F q hP => wpAny_tests_one (h.run env A s m σ Q P E en ao R F q hP)⟩
noncomputable def only (fv : List String) (m : bb) : bb := fun x => if x ∈ fv then m x else Option.none
noncomputable def bU (g : Tgt) (inv : ah → Prop) (B : BT) (T : ET) (m : bb) : List V → List V → ah → (List V → ah → Prop) → Prop
 | [], acc, σ, Q => inv σ ∧ Q acc σ
 | v :: r, acc, σ, Q => inv σ ∧ ∃ m', dJ g v m = some m' ∧ B m' σ fun b σ₁ => if b then T m' σ₁ fun y σ₂ => acc.length < 1048576 ∧ bU g inv B T m r (acc ++ [y]) σ₂ Q else bU g inv B T m r acc σ₁ Q
noncomputable def cT (fv : List String) (g : Tgt) (I : IT) (B : BT) (T : ET) : ET := fun m σ Q => I m σ fun items inv σ' => bU g inv B T (only fv m) items [] σ' fun ys σ'' => cR ys σ'' Q
noncomputable def Tgt.names : Tgt → List String
 | .name x => [x]
 | .tup xs => xs
theorem gX : ∀ (xs : List String) (vs : List V) (m : bb) (y : String), y ∉ xs → aC xs vs m y = m y
 | [], _, _, _, _ => by simp [aC]
 | x :: xs, [], _, _, _ => by simp [aC]
 | x :: xs, v :: vs, m, y, h => by
  simp only [aC]
  rw [gX xs vs _ y (fun z => h (.tail _ z))]
  exact fF (fun z => h (by rw [z]; exact .head _))
theorem my {g : Tgt} {v : V} {m m' : bb} (h : dJ g v m = some m') {y : String} (hy : y ∉ g.names) : m' y = m y := by
 cases g with
 | name x => cases h; exact fF (fun z => hy (by simp [Tgt.names, z]))
 | tup xs =>
  cases v <;> simp [dJ] at h
  obtain ⟨_, rfl⟩ := h
  exact gX _ _ _ _ hy
theorem FrameRel.weaken {env : Env} {m m' : bb} {σ : ah} {h : Heap} (F : FrameRel C env m' σ h) (hw : ∀ x v, m x = some v → m' x = some v) : FrameRel C env m σ h :=
 ⟨let ⟨mm, h1, h2⟩ := F.ns; ⟨mm, h1, fun x v e q => h2 x v (hw x v e) q⟩, fun x v e => F.cel x v (hw x v e), F.cells, F.sepL, F.baseL, F.baseC, F.dist, F.has⟩
theorem k7 {A : Around} {R : Result → Shared → Prop} {s : Shared} {elt target iter : Expr} {ifs : List Expr} {scope : Scope} {pos : Pos} {it acc : Value} {env : Env} (I : Nat → Shared → Prop)
  (turn : ∀ n s, I n s → wpAny (model C.prog C.w) A (pyNext it) (fun r s₁ => match r with
   | Option.none => R (.ok .next) s₁
   | some v => wpAny (model C.prog C.w) A (letOwnedTupleGo target it v) (fun _ s₁' => wpAny (model C.prog C.w) A (assign target env v) (fun _ s₂ =>
     wpAny (model C.prog C.w) A (forIn ifs true fun c r => if r = true then do let ok ← isTrue c env (eval c env); pure (ForInStep.yield ok) else pure (ForInStep.yield r)) (fun ok s₃ =>
      if ok = true then wpAny (model C.prog C.w) A (eval elt env) (fun x s₄ =>
       wpAny (model C.prog C.w) A (call (.builtin "list.append") [acc, x]) (fun _ s₅ => ∃ m, m < n ∧ I m s₅) (notedBy (model C.prog C.w) A env fun e s' => R (.error e) s') s₄) (notedBy (model C.prog C.w) A env fun e s' => R (.error e) s') s₃
      else ∃ m, m < n ∧ I m s₃) (notedBy (model C.prog C.w) A env fun e s' => R (.error e) s') s₂) (notedBy (model C.prog C.w) A env fun e s' => R (.error e) s') s₁') (notedBy (model C.prog C.w) A env fun e s' => R (.error e) s') s₁) (notedBy (model C.prog C.w) A env fun e s' => R (.error e) s') s)
  (n : Nat) (h : I n s) : codeAny (model C.prog C.w) A (.compLoop (.ListComp elt [⟨target, iter, ifs, 0⟩] scope pos) 0 it acc env) R s := by
 refine codeAny_loop rfl I (fun n s hI => ?_) n h
 show wpAny _ A ((compTurn (.ListComp elt [⟨target, iter, ifs, 0⟩] scope pos) 0 it acc env).onRaise (fun x => do noteFrame x env; theTreesLotGoes x)) _ _ s
 refine wpAny_noted ?_
 rw [compTurn_list]
 refine wpAny_bind (wpAny_standAt (wpAny_bind (wpAny_mono (turn n s hI) (fun r s₁ h₁ => ?_) fun _ _ h' => h')))
 cases r with
 | none => exact wpAny_pure h₁
 | some v =>
  refine wpAny_bind (wpAny_mono h₁ (fun _ s₁' h₁' => ?_) fun _ _ h' => h')
  refine wpAny_bind (wpAny_mono h₁' (fun _ s₂ h₂ => wpAny_bind (wpAny_mono h₂ (fun ok s₃ h₃ => ?_) fun _ _ h' => h')) fun _ _ h' => h')
  cases ok with
  | false => exact wpAny_pure ⟨rfl, h₃⟩
  | true => exact wpAny_bind (wpAny_bind (wpAny_mono h₃ (fun x s₄ h₄ => wpAny_bind (wpAny_mono h₄ (fun _ s₅ h₅ => wpAny_pure (wpAny_pure ⟨rfl, h₅⟩)) fun _ _ h' => h')) fun _ _ h' => h'))
structure CompOk (sc cs : Scope) (fv : List String) (g : Tgt) : Prop where
 kind : cs.kind = .function
 nocell : ∀ y ∈ cs.names, y.2 ≠ .cell
 names : ∀ y ∈ cs.names, y.2 = .local → cs.names.lookup y.1 = some .local
 nodup : (cs.names.map (·.1)).Nodup
 frees : ∀ p ∈ cs.names, p.2 = .free → ∃ x ∈ fv, Str.ofString x = p.1
 frs : ∀ x ∈ fv, (Str.ofString x, NameKind.free) ∈ cs.names ∧ (sc.names.lookup (Str.ofString x) = some .cell ∨ sc.names.lookup (Str.ofString x) = some .free)
 tgt : ∀ x ∈ g.names, x ∉ fv
noncomputable def m9 (env : Env) (x : String) : Prop := ∃ c, env.cells.lookup (Str.ofString x) = some c
theorem dh {α : Type} : ∀ {l : List (Str × α)} {n : Str} {c : α}, (l.map (·.1)).Nodup → (n, c) ∈ l → l.lookup n = some c
 | p :: r, n, c, hn, hm => by
  rw [List.map_cons, List.nodup_cons] at hn
  rcases List.mem_cons.mp hm with e | hm
  ·subst e; simp
  ·have : n ≠ p.1 := fun e => hn.1 (e ▸ List.mem_map_of_mem hm)
   rw [List.lookup_cons, show (n == p.1) = false by simp [this]]
   exact dh hn.2 hm
theorem iU {h : Heap} {a : Addr} {xs : Array Value} (hp : h.PlainList a xs) (o : Obj) (e : h.get? a = some o) : ∀ es ep, o.data ≠ .dict es ep := by
 obtain ⟨n, hn⟩ := hp
 rw [hn] at e; cases e
 intro es ep z; cases z
inductive CompInv (C : Cx) (cenv : Env) (σ₂ : ah) (h : Heap) (I H : Addr) (m : bb) (items : List V) (St : Nat → Heap → Prop) (L : List V → List V → ah → Prop) (n : Nat) (s' : Shared) : Prop
 | mk (i : Nat) (ys : List V) (ws : List Value) (σ' : ah) (rest : List V) (e1 : items.drop i = rest) (e2 : i ≤ items.length) (e3 : n = rest.length + 1) (st : St i s'.heap) (hI : σ' I = Option.none) (hD : σ' h.objs.size = Option.none) (R : RelG C σ' s')
   (F : FrameRel C cenv m σ' s'.heap) (hp : s'.heap.PlainList h.objs.size (List.toArray ws)) (hv : VRels C.aS s'.heap ys ws) (hl : ys.length ≤ 1048576) (S : Step (fun b => b = I ∨ b = h.objs.size ∨ b = H) σ₂ σ' h s'.heap) (q : L rest ys σ') : CompInv C cenv σ₂ h I H m items St L n s'
theorem jV {env : Env} {A : Around} {s₀ s₂ : Shared} {m : bb} {σ₀ σ₂ : ah} {elt iter target : Expr} {ifs : List Expr} {cs : Scope} {pos : Pos} {fv : List String} {g : Tgt} {B : BT} {T : ET} {I : Addr} {items : List V} {inv : ah → Prop} {St : Nat → Heap → Prop}
  {Q : List V → ah → Prop} {RR : Value → Addr → Result → Shared → Prop} {E : Value → Shared → Prop}
  (ok : CompOk sc cs fv g) (hhas : ∀ x ∈ fv, m9 env x) (ht : HT C (dW sc cs) k true target g) (hB : HTs C (dW sc cs) k ifs B) (hT : HE C (dW sc cs) k elt T)
  (en : EnvOk env sc) (ao : AOk C A k) (R₀ : RelG C σ₀ s₀) (S : Step no σ₀ σ₂ s₀.heap s₂.heap) (R₂ : RelG C σ₂ s₂) (F : FrameRel C env m σ₂ s₂.heap) (hit : It C k I items inv St) (st : St 0 s₂.heap) (hI : s₀.heap.objs.size ≤ I) (hσI : σ₂ I = Option.none)
  (q : bU g inv B T (only fv m) items [] σ₂ Q)
  (hRR : ∀ D C' ys ws mm σ' s', Heap.Ns s'.heap C' mm → s₂.heap.objs.size ≤ C' → s₂.heap.objs.size ≤ D → D ≠ C' → σ' D = Option.none → σ' C' = Option.none → s'.heap.PlainList D (List.toArray ws) → VRels C.aS s'.heap ys ws → RelG C σ' s' →
   ys.length ≤ 1048576 → Step no σ₀ σ' s₀.heap s'.heap → Step (fun b => b = I) σ₂ σ' s₂.heap s'.heap → Q ys σ' → RR (.ref D) C' (.ok .next) s') :
  wpAny (model C.prog C.w) A (newList []) (fun acc s₃ => wpAny (model C.prog C.w) A (newFunctionEnv cs env.globals (jy env.cells cs.names []) [] env.qual Option.none .none (some env)) (fun cenv s₄ =>
   codeAny (model C.prog C.w) A (.compStart (.ListComp elt [⟨target, iter, ifs, 0⟩] cs pos) 0 (.ref I) acc { cenv with scope := relabel cs env }) (RR acc cenv.locals) s₄) E s₃) E s₂ := by
 have hfree : ∀ p ∈ cs.names, p.2 = .free → ∃ c, env.cells.lookup p.1 = some c := fun p hp hq => by
  obtain ⟨x, hx, e⟩ := ok.frees p hp hq
  rw [← e]; exact hhas x hx
 refine wpAny_newObj_type (wpAny_newFunctionEnv ok.nocell (by intro y hy; simp at hy) (fun h₁ hns₁ hsb₁ => ?_) ok.kind)
 dsimp only at hns₁ hsb₁ ⊢
 generalize hH2 : s₂.heap.push { cls := .type "list", dict := Option.none, data := .seq ([] : List Value).toArray } = H2 at hns₁ hsb₁ ⊢
 have hC : H2.objs.size = s₂.heap.objs.size + 1 := by rw [← hH2, Heap.size_push]
 have hDC : s₂.heap.objs.size ≠ H2.objs.size := by rw [hC]; exact Nat.ne_of_lt (Nat.lt_succ_self _)
 have old : ∀ b o, s₂.heap.get? b = some o → h₁.get? b = some o := fun b o e => hsb₁.extBut b o (by rw [hC]; exact Nat.ne_of_lt (Nat.lt_succ_of_lt (Heap.lt_size e))) (Heap.get?_push_of_some _ (hH2 ▸ Heap.get?_push_of_some _ e))
 have hacc : h₁.PlainList s₂.heap.objs.size (List.toArray []) := ⟨_, hsb₁.extBut _ _ hDC (Heap.get?_push_of_some _ (hH2 ▸ Heap.get?_push_size _ rfl))⟩
 have hsz₁ : h₁.objs.size = s₂.heap.objs.size + 2 := by rw [hsb₁.1, Heap.size_push, hC]
 have R₁ : RelG C σ₂ { s₂ with heap := h₁, toks := s₂.toks + ([] : List (Str × Value)).length } := R₂.grow old
 have cl := jb (cells := env.cells) cs.names [] hfree
 have kindF : ∀ x ∈ fv, (dW sc cs).names.lookup (Str.ofString x) = some .cell ∨ (dW sc cs).names.lookup (Str.ofString x) = some .free := fun x hx =>
  pA (dh ok.nodup (ok.frs x hx).1)
 have hLC : (compEnvC cs (jy env.cells cs.names []) H2.objs.size env).locals = H2.objs.size := rfl
 have eS : (compEnvC cs (jy env.cells cs.names []) H2.objs.size env).scope = dW sc cs := by show relabel cs env = _; rw [nu, en.scope]
 have eCl : (compEnvC cs (jy env.cells cs.names []) H2.objs.size env).cells = jy env.cells cs.names [] := rfl
 have enC : EnvOk (compEnvC cs (jy env.cells cs.names []) H2.objs.size env) (dW sc cs) := ⟨eS, ok.kind, en.globals, en.builtins⟩
 have memF : ∀ n c, (jy env.cells cs.names []).lookup n = some c → (n, NameKind.free) ∈ cs.names ∧ env.cells.lookup n = some c := fun n c e => by
  rw [cl n] at e
  split at e
  ·exact ⟨by assumption, e⟩
  ·simp at e
 have kc : ∀ c v, s₂.heap.IsCell c v → h₁.IsCell c v := fun c v ⟨o, ho, hd⟩ => ⟨o, old c o ho, hd⟩
 have F₁ : FrameRel C (compEnvC cs (jy env.cells cs.names []) H2.objs.size env) (only fv m) σ₂ h₁ := by
  refine ⟨⟨_, hns₁, fun x v e kx => ?_⟩, fun x v e => ?_, fun n c e => ?_, R₂.freshNone (aA (by rw [hLC, hC]; exact Nat.le_succ _)), R₂.baseNone (aA (by rw [hLC, hC]; exact Nat.le_succ _)), fun n c e => ?_, ?_, fun n e => ?_⟩
  ·unfold only at e
   split at e
   ·rename_i hx
    rcases kindF x hx with z | z <;> (rw [enC.of z] at kx; cases kx)
   ·cases e
  ·unfold only at e
   split at e
   ·rename_i hx
    rcases F.cel x v e with z | ⟨z, c, w, h1, h2, h3⟩
    ·exfalso
     rcases (ok.frs x hx).2 with y | y <;> (rw [en.of y] at z; cases z)
    ·refine .inr ⟨?_, c, w, ?_, kc _ _ h2, h3.keep fun b o e _ => old b o e⟩
     ·exact (kindF x hx).imp (fun z => enC.of z) fun z => enC.of z
     ·rw [eCl, cl, if_pos (ok.frs x hx).1]; exact h1
   ·cases e
  ·obtain ⟨v, hv⟩ := F.cells n c (memF n c e).2
   exact ⟨v, kc _ _ hv⟩
  ·exact F.baseC n c (memF n c e).2
  ·exact jc F.dist cs.names [] hfree ok.nodup (fun p hp => by cases hp) List.Pairwise.nil
  ·have go : (n, NameKind.free) ∈ cs.names → ∃ c, (jy env.cells cs.names []).lookup n = some c := fun z => by
    obtain ⟨c, hc⟩ := hfree _ z rfl
    exact ⟨c, by rw [cl, if_pos z]; exact hc⟩
   rcases e with e | e
   ·have e' : (dW sc cs).names.lookup n = some .cell := by unfold Env.kindOf at e; rw [eS] at e; exact e
    rcases pB e' with z | z
    ·exact go z
    ·exact absurd rfl (ok.nocell _ z)
   ·have e' : (dW sc cs).names.lookup n = some .free := by unfold Env.kindOf at e; rw [eS] at e; exact e
    exact go (kC e')
 have hI2 : I < s₂.heap.objs.size := by obtain ⟨o, ho, _⟩ := hit.live _ _ st; exact Heap.lt_size ho
 have st₁ : St 0 h₁ := hit.frame _ _ _ st (fun o e => old I o e) (fun b o e _ => old b o e)
 have S₁ : Step (fun b => b = I ∨ b = s₂.heap.objs.size ∨ b = H2.objs.size) σ₂ σ₂ s₂.heap h₁ := .grow old (by rw [hsz₁]; exact Nat.le_add_right _ _)
 have hσD : σ₂ s₂.heap.objs.size = Option.none := R₂.freshNone (bC _)
 have hIb : C.hB.get? I = Option.none := R₀.baseNone (aA hI)
 have hIL : I ≠ H2.objs.size := by rw [hC]; exact Nat.ne_of_lt (Nat.lt_succ_of_lt hI2)
 have wk : ∀ {v m'}, dJ g v (only fv m) = some m' → ∀ x u, only fv m x = some u → m' x = some u := fun hb x u e => by
  rw [my hb]; exact e
  intro hx
  unfold only at e
  rw [if_neg (ok.tgt x hx)] at e; cases e
 have loop : ∀ s₃ : Shared, s₃ = { s₂ with heap := h₁, toks := s₂.toks + ([] : List (Str × Value)).length } →
   codeAny (model C.prog C.w) A (.compLoop (.ListComp elt [⟨target, iter, ifs, 0⟩] cs pos) 0 (.ref I) (.ref s₂.heap.objs.size) (compEnvC cs (jy env.cells cs.names []) H2.objs.size env)) (RR (.ref s₂.heap.objs.size) H2.objs.size) s₃ := by
  rintro s₃ rfl
  generalize compEnvC cs (jy env.cells cs.names []) H2.objs.size env = cenv at hLC eS eCl enC F₁ ⊢
  refine k7
   (CompInv C cenv σ₂ s₂.heap I H2.objs.size (only fv m) items St fun rest ys σ' => bU g inv B T (only fv m) rest ys σ' Q) ?_ _
   ⟨0, [], [], σ₂, items, by simp, by simp, rfl, st₁, hσI, hσD, R₁, F₁, hacc, .nil, by simp, S₁, q⟩
  rintro n s' ⟨i, ys, ws, σ', rest, e1, e2, rfl, st', hσ', hσD', R', F', hp', hv', hl', S', q'⟩
  have nT : ∀ o, s'.heap.get? s₂.heap.objs.size = some o → ¬ fU o ∧ ∀ v, o.data ≠ .cell v := fun o ho => by
   obtain ⟨n, hn⟩ := hp'; rw [hn] at ho; cases ho; exact ⟨by simp [fU], by simp⟩
  have drew : ∀ {h' : Heap}, Heap.ExtBut I s'.heap h' → s'.heap.objs.size ≤ h'.objs.size → Step (fun b => b = I ∨ b = s₂.heap.objs.size ∨ b = H2.objs.size) σ' σ' s'.heap h' := fun hx hsz =>
   .of (fun b o e _ q => hx b o (fun z => q (.inl z)) e) hsz fun _ a b => absurd a b
  have ktI : ∀ {h' : Heap}, Heap.ExtBut I s'.heap h' → a0 s'.heap h' := fun hx b o e ht => hx b o (by
   rintro rfl; obtain ⟨oI, hoI, hT, _⟩ := hit.live _ _ st'; rw [hoI] at e; cases e; exact hT ht) e
  cases rest with
  | nil =>
   have hil : i = items.length := ga e1 e2
   subst hil
   refine be (hit.done A σ' s' _ _ ao R' q'.1 st' fun h' tk hx hsz => ?_)
   have R₃ := cU (tk := tk) R' hx hσ' hIb (hit.live _ _ st')
   have F₃ := cn F' hx (hit.live _ _ st') (by rw [hLC]; exact hIL)
   have S₃ := S'.trans (drew hx hsz)
   obtain ⟨mm, hmm, _⟩ := F₃.ns
   rw [hLC] at hmm
   have sep := F₃.sepL
   rw [hLC] at sep
   refine hRR _ _ ys ws mm σ' _ hmm (by rw [hC]; exact Nat.le_succ _) (Nat.le_refl _) hDC hσD' sep (hp'.extBut hx (Nat.ne_of_gt hI2)) (hv'.keep (ktI hx)) R₃ hl' (((S.mono fun _ _ _ z => z.elim).trans S₃).mono fun b o e z => ?_) (S₃.mono fun b o e z => ?_) q'.2
   ·have := Heap.lt_size e
    have hh := S.size
    rcases z with z | z | z
    ·exact absurd this (by rw [z]; exact Nat.not_lt.mpr hI)
    ·exact absurd this (by rw [z]; exact Nat.not_lt.mpr hh)
    ·exact absurd this (by rw [z, hC]; exact Nat.not_lt.mpr (Nat.le_succ_of_le hh))
   ·have := Heap.lt_size e
    rcases z with z | z | z
    ·exact z
    ·exact absurd this (by rw [z]; exact Nat.lt_irrefl _)
    ·exact absurd this (by rw [z, hC]; exact Nat.not_lt.mpr (Nat.le_succ _))
  | cons v r =>
   obtain ⟨hinv, m₁, hm₁, q'⟩ := q'
   have hiv : items[i]? = some v := by
    have : (items.drop i)[0]? = some v := by rw [e1]; rfl
    simpa using this
   have hilt : i < items.length := iB e1
   refine be (hit.next A σ' s' i v _ _ ao R' hinv st' hiv fun w h₂ tk₂ hv st₂ hx hsz => ?_)
   have R₃ := cU (tk := tk₂) R' hx hσ' hIb (hit.live _ _ st')
   have F₃ := cn F' hx (hit.live _ _ st') (by rw [hLC]; exact hIL)
   have S₃ := S'.trans (drew hx hsz)
   have hp₃ := hp'.extBut hx (Nat.ne_of_gt hI2)
   have hv₃ := hv'.keep (ktI hx)
   refine hit.own A _ (i + 1) target w _ _ st₂ ?_
   refine ht.run cenv A _ (only fv m) m₁ σ' v w _ _ enC ao R₃ F₃ hv hm₁ fun s₄ R₄ F₄ S₄ => ?_
   have S₄' : Step (fun b => b = H2.objs.size) σ' σ' h₂ s₄.heap := S₄.mono fun b _ _ z => z.elim (fun z => by rw [hLC] at z; exact z) fun z => by cases z.1
   have kt₄ : a0 h₂ s₄.heap := S₄'.tups (s := { s' with heap := h₂, toks := tk₂ }) R₃ fun b o z e => by
    subst z; rw [← hLC] at e; exact F₃.ownT _ o (.inl rfl) e
   have st₄ : St (i + 1) s₄.heap := hit.frame _ _ _ st₂ (fun o e => S₄'.keep I o e hσ' hIL (hit.flds _ _ st₂ o e)) kt₄
   have hp₄ : s₄.heap.PlainList s₂.heap.objs.size (List.toArray ws) := hp₃.at fun o e => S₄'.keep _ o e hσD' hDC (iU hp₃ o e)
   have hv₄ := hv₃.keep kt₄
   have S₅ : Step (fun b => b = I ∨ b = s₂.heap.objs.size ∨ b = H2.objs.size) σ₂ σ' s₂.heap s₄.heap := S₃.trans (S₄'.mono fun _ _ _ z => .inr (.inr z))
   refine hB.run cenv A s₄ m₁ σ' _ _ _ enC ao R₄ F₄ q' fun b σ₅ s₅ R₅ Sb q₅ => ?_
   have sepI : ∀ {σa σb : ah} {sa : Shared} {hb : Heap}, Step no σa σb sa.heap hb → St (i + 1) sa.heap → σa I = Option.none → σb I = Option.none := fun {σa σb sa hb} Sx stx hx => by
    cases z : σb I with
    | none => rfl
    | some o =>
     obtain ⟨o', ho', _⟩ := hit.live _ _ stx
     exact absurd (Heap.lt_size ho') (Nat.not_lt.mpr (Sx.new I hx (by rw [z]; simp)))
   have sepD : ∀ {σa σb : ah} {sa : Shared} {hb : Heap}, Step no σa σb sa.heap hb → sa.heap.PlainList s₂.heap.objs.size (List.toArray ws) → σa s₂.heap.objs.size = Option.none → σb s₂.heap.objs.size = Option.none := fun {σa σb sa hb} Sx hpx hx => by
    cases z : σb s₂.heap.objs.size with
    | none => rfl
    | some o =>
     obtain ⟨n', hn'⟩ := hpx
     exact absurd (Heap.lt_size hn') (Nat.not_lt.mpr (Sx.new _ hx (by rw [z]; simp)))
   have st₅ : St (i + 1) s₅.heap := hit.frame _ _ _ st₄ (fun o e => Sb.keep I o e hσ' (fun z => z) (hit.flds _ _ st₄ o e)) (Sb.tupsN R₄)
   have hp₅ : s₅.heap.PlainList s₂.heap.objs.size (List.toArray ws) := hp₄.at fun o e => Sb.keep _ o e hσD' (fun z => z) (iU hp₄ o e)
   have hv₅ := hv₄.keep (Sb.tupsN R₄)
   have F₅ := F₄.step R₄ Sb
   have hσ₅ := sepI Sb st₄ hσ'
   have hσD₅ := sepD Sb hp₄ hσD'
   have S₆ := S₅.trans (Sb.mono fun _ _ _ z => z.elim)
   have dr : items.drop (i + 1) = r := by rw [← List.tail_drop, e1]; rfl
   cases b with
   | false =>
    simp only [Bool.false_eq_true, if_false] at q₅ ⊢
    exact ⟨r.length + 1, Nat.lt_succ_self _, i + 1, ys, ws, σ₅, r, dr, hilt, rfl, st₅, hσ₅, hσD₅, R₅, F₅.weaken (wk hm₁), hp₅, hv₅, hl', S₆, q₅⟩
   | true =>
    simp only [if_true] at q₅ ⊢
    refine hT.run cenv A s₅ m₁ σ₅ _ _ _ enC ao R₅ F₅ q₅ fun y wy σ₆ s₆ hy R₆ Sc q₆ => ?_
    obtain ⟨hlen, q₆⟩ := q₆
    have st₆ : St (i + 1) s₆.heap := hit.frame _ _ _ st₅ (fun o e => Sc.keep I o e hσ₅ (fun z => z) (hit.flds _ _ st₅ o e)) (Sc.tupsN R₅)
    have hp₆ : s₆.heap.PlainList s₂.heap.objs.size (List.toArray ws) := hp₅.at fun o e => Sc.keep _ o e hσD₅ (fun z => z) (iU hp₅ o e)
    have hv₆ := hv₅.keep (Sc.tupsN R₅)
    have hσ₆ := sepI Sc st₅ hσ₅
    have hσD₆ := sepD Sc hp₅ hσD₅
    have F₆ := F₅.step R₅ Sc
    refine wpAny_list_append_plain hp₆ (fun h₇ hp₇ hs₇ => ?_) (by rw [List.size_toArray, ← hv₆.length, sizeLine_eq]; exact Nat.le_trans hl' (by decide))
    have nD : ∀ o, s₆.heap.get? s₂.heap.objs.size = some o → ¬ fU o ∧ ∀ v, o.data ≠ .cell v := fun o ho => by
     obtain ⟨n, hn⟩ := hp₆; rw [hn] at ho; cases ho; exact ⟨by simp [fU], by simp⟩
    obtain ⟨oD, hoD⟩ : ∃ o, s₆.heap.get? s₂.heap.objs.size = some o := let ⟨n, hn⟩ := hp₆; ⟨_, hn⟩
    have kt₇ : a0 s₆.heap h₇ := fun b o e ht => hs₇.extBut b o (by rintro rfl; exact (nD o e).1 ht) e
    have R₇ : RelG C σ₆ { s₆ with heap := h₇ } := cU (tk := s₆.toks) R₆ hs₇.extBut hσD₆ (R₂.baseNone (bC _)) ⟨oD, hoD, nD oD hoD⟩
    have F₇ : FrameRel C cenv m₁ σ₆ h₇ := cn F₆ hs₇.extBut ⟨oD, hoD, nD oD hoD⟩ (by rw [hLC]; exact hDC)
    have st₇ : St (i + 1) h₇ := hit.frame _ _ _ st₆ (fun o e => hs₇.extBut I o (Nat.ne_of_lt hI2) e) kt₇
    refine ⟨r.length + 1, Nat.lt_succ_self _, i + 1, ys ++ [y], ws ++ [wy], σ₆, r, dr, hilt, rfl, st₇, hσ₆, hσD₆, R₇, F₇.weaken (wk hm₁), by simpa using hp₇, (hv₆.append (.cons hy .nil)).keep kt₇, by simp; exact Nat.le_of_lt_succ hlen, (S₆.trans (Sc.mono fun _ _ _ z => z.elim)).trans ?_, q₆⟩
    exact .of (fun b o e _ q => hs₇.extBut b o (fun z => q (.inr (.inl z))) e) (Nat.le_of_eq hs₇.1.symm) fun _ a b => absurd a b
 exact codeAny_compStart_list (loop _ rfl) (hit.self A _ 0 _ _ st₁ (loop _ rfl))
theorem kM {env : Env} {m : bb} {σ : ah} {h : Heap} {cs : Scope} {fv : List String} {g : Tgt} (ok : CompOk sc cs fv g) (en : EnvOk env sc) (F : FrameRel C env m σ h) : ∀ x ∈ fv, m9 env x := fun x hx =>
 F.has _ ((ok.frs x hx).2.imp (fun z => en.of z) fun z => en.of z)
theorem RelG.enter {σ : ah} {s : Shared} {D : Addr} {o : AObj} (R : RelG C σ s) (hD : C.hB.get? D = Option.none) (ho : ObjRel C s.heap D o) : RelG C (aY σ D o) s :=
 ⟨R.rest, R.base, fun a o' e => by
  by_cases h : a = D
  ·subst h; rw [an] at e; cases e; exact ho
  ·rw [az h] at e; exact R.view a o' e,
   fun a ha => by
  by_cases h : a = D
  ·subst h; exact hD
  ·rw [az h] at ha; exact R.apart a ha⟩
theorem Step.enter {own : Addr → Prop} {σ σ' : ah} {h h' : Heap} {D : Addr} {o : AObj} (S : Step own σ σ' h h') (hD : h.objs.size ≤ D) : Step own σ (aY σ' D o) h h' :=
 ⟨S.keepL, S.size, fun b n z => by
  by_cases hb : b = D
  ·subst hb; exact hD
  ·rw [az hb] at z; exact S.new b n z⟩
theorem ff {elt iter target : Expr} {ifs : List Expr} {cs : Scope} {pos : Pos} {fv : List String} {g : Tgt} {I : IT} {B : BT} {T : ET} (ok : CompOk sc cs fv g)
  (hi : HI C sc k iter I) (ht : HT C (dW sc cs) k true target g) (hB : HTs C (dW sc cs) k ifs B) (hT : HE C (dW sc cs) k elt T) (hf : ∀ env x, foldedSetIterable iter env x = pure x) :
  HE C sc k (.ListComp elt [⟨target, iter, ifs, 0⟩] cs pos) (cT fv g I B T) := by
 refine ⟨?_⟩; intro env A s m σ Q P E en ao R F q hP
 have hfree : ∀ p ∈ cs.names, p.2 = .free → ∃ c, env.cells.lookup p.1 = some c := fun p hp hq => by
  obtain ⟨x, hx, e⟩ := ok.frees p hp hq
  rw [← e]; exact kM ok en F x hx
 rw [eval_ListComp]
 refine wpAny_comprehension_free (use := Option.none) rfl (hf env) (ja hfree) ok.kind ok.names (hi.run env A s m σ _ _ E en ao R F q fun items inv I St σ₂ s₂ hit st hI hσI R₂ S₂ q₂ => ?_)
 refine jV (RR := fun acc C' => compPost (model C.prog C.w) A E Option.none P acc C') ok (kM ok en F) ht hB hT en ao R S₂ R₂ (F.step R S₂) hit st hI hσI q₂ ?_
 intro D C' ys ws mm σ' s' hmm hC' hD hDC hσD hσC hp hv R' hly S' SI q'
 refine ⟨mm, hmm, fun h'' hs'' => ?_⟩
 have nT : ∀ o, s'.heap.get? C' = some o → ¬ fU o ∧ ∀ v, o.data ≠ .cell v := fun o ho => by
  obtain ⟨o', es, ep, ho', hd', _⟩ := hmm; rw [ho'] at ho; cases ho; exact ⟨by simp [fU, hd'], by simp [hd']⟩
 obtain ⟨oC, hoC⟩ : ∃ o, s'.heap.get? C' = some o := let ⟨o', _, _, ho', _⟩ := hmm; ⟨o', ho'⟩
 have hC0 : s.heap.objs.size ≤ C' := Nat.le_trans S₂.size hC'
 have hD0 : s.heap.objs.size ≤ D := Nat.le_trans S₂.size hD
 have kt : a0 s'.heap h'' := fun b o e ht => hs''.extBut b o (by rintro rfl; exact (nT o e).1 ht) e
 have R₃ : RelG C σ' { s' with heap := h'' } := cU (tk := s'.toks) R' hs''.extBut hσC (R.baseNone (aA hC0)) ⟨oC, hoC, nT oC hoC⟩
 have R₄ := R₃.enter (D := D) (o := .list ys) (R.baseNone (aA hD0)) ⟨by exact Nat.le_trans hly (by decide), ws, hp.extBut hs''.extBut hDC, hv.keep kt⟩
 have S₃ : Step (fun b => b = C') σ' σ' s'.heap h'' := .of (fun b o e _ q => hs''.extBut b o q e) (Nat.le_of_eq hs''.1.symm) fun _ a b => absurd a b
 have S₄ : Step no σ σ' s.heap h'' := ((S'.mono fun _ _ _ z => z.elim).trans S₃).mono fun b o e z => absurd (Heap.lt_size e) (by rw [z]; exact Nat.not_lt.mpr hC0)
 exact hP _ _ _ _ (.ref D) R₄ (S₄.enter hD0) (q' D hσD)
theorem b6 {elt iter target : Expr} {ifs : List Expr} {cs : Scope} {pos p spos : Pos} {x : String} {fv : List String} {g : Tgt} {I : IT} {B : BT} {T : ET} (ok : CompOk sc cs fv g)
  (hi : HI C sc k iter I) (ht : HT C (dW sc cs) k true target g) (hB : HTs C (dW sc cs) k ifs B) (hT : HE C (dW sc cs) k elt T) (hf : ∀ env x, foldedSetIterable iter env x = pure x)
  (hx : sc.names.lookup (Str.ofString x) = some .local) (hsw : ∀ env, EnvOk env sc → swapsWith (.ListComp elt [⟨target, iter, ifs, 0⟩] cs pos) (some (.Name (Str.ofString x) p)) spos.line env = pure true) :
  HS1 C sc k (.Assign [.Name (Str.ofString x) p] (.ListComp elt [⟨target, iter, ifs, 0⟩] cs pos) spos) (bf x (cT fv g I B T)) := by
 refine ⟨?_⟩; intro env A s m σ Q P E en ao R F q hP
 have hfree : ∀ p ∈ cs.names, p.2 = .free → ∃ c, env.cells.lookup p.1 = some c := fun p hp hq => by
  obtain ⟨x, hx, e⟩ := ok.frees p hp hq
  rw [← e]; exact kM ok en F x hx
 rw [exec_Assign_Name_used _ _ _ _ (hsw env en)]
 refine wpAny_bind (wpAny_standAt (wpAny_bind ?_))
 show wpAny _ A (do let _ ← comprehension (.ListComp elt [⟨target, iter, ifs, 0⟩] cs pos) cs env _ (newList []) false (eval iter env) (some (assign (.Name (Str.ofString x) p) env))) _ _ s
 refine wpAny_bind (wpAny_mono (wpAny_comprehension_free (use := some (assign (.Name (Str.ofString x) p) env)) (Q := fun _ s' => P .next s') rfl (hf env) (ja hfree) ok.kind ok.names (hi.run env A s m σ _ _ E en ao R F q fun items inv I St σ₂ s₂ hit st hI hσI R₂ S₂ q₂ => ?_))
  (fun _ s' hq => wpAny_pure (wpAny_pure hq)) fun _ _ e => e)
 refine jV (RR := fun acc C' => compPost (model C.prog C.w) A E (some (assign (.Name (Str.ofString x) p) env)) (fun _ s' => P .next s') acc C') ok (kM ok en F) ht hB hT en ao R S₂ R₂ (F.step R S₂) hit st hI hσI q₂ ?_
 intro D C' ys ws mm σ' s' hmm hC' hD hDC hσD hσC hp hv R' hly S' SI q'
 have hC0 : s.heap.objs.size ≤ C' := Nat.le_trans S₂.size hC'
 have hD0 : s.heap.objs.size ≤ D := Nat.le_trans S₂.size hD
 have R₃ := R'.enter (D := D) (o := .list ys) (R.baseNone (aA hD0)) ⟨by exact Nat.le_trans hly (by decide), ws, hp, hv⟩
 have S₃ := S'.enter (o := .list ys) hD0
 have F₃ := F.step R S₃
 have hCL : C' ≠ env.locals := fun e => by
  obtain ⟨mL, hmL, _⟩ := F.ns
  exact absurd hmL.lt (by rw [← e]; exact Nat.not_lt.mpr hC0)
 refine wpAny_assign_Name (cY en R₃ F₃ hx (.ref D) fun s₄ R₄ F₄ S₄ => ?_)
 have hσ₃C : aY σ' D (.list ys) C' = Option.none := by rw [az (Ne.symm hDC)]; exact hσC
 have hmm4 : s₄.heap.Ns C' mm := Like.ns hmm fun o e => S₄.keepL C' o e hσ₃C hCL
 refine ⟨mm, hmm4, fun h'' hs'' => ?_⟩
 have nT : ∀ o, s₄.heap.get? C' = some o → ¬ fU o ∧ ∀ v, o.data ≠ .cell v := fun o ho => by
  obtain ⟨o', es, ep, ho', hd', _⟩ := hmm4; rw [ho'] at ho; cases ho; exact ⟨by simp [fU, hd'], by simp [hd']⟩
 obtain ⟨oC, hoC⟩ : ∃ o, s₄.heap.get? C' = some o := let ⟨o', _, _, ho', _⟩ := hmm4; ⟨o', ho'⟩
 have R₅ := cU (tk := s₄.toks) R₄ hs''.extBut hσ₃C (R.baseNone (aA hC0)) ⟨oC, hoC, nT oC hoC⟩
 have F₅ := cn F₄ hs''.extBut ⟨oC, hoC, nT oC hoC⟩ hCL
 have S₅ : Step (fun b => b = env.locals ∨ b = C') (aY σ' D (.list ys)) (aY σ' D (.list ys)) s'.heap h'' := (S₄.mono fun _ _ _ z => .inl z).trans (.of (fun b o e _ q => hs''.extBut b o (fun z => q (.inr z)) e) (Nat.le_of_eq hs''.1.symm) fun _ a b => absurd a b)
 have S₆ : Step (kh env) σ (aY σ' D (.list ys)) s.heap h'' := ((S₃.mono fun _ _ _ z => z.elim).trans S₅).mono fun b o e z => z.elim .inl fun z => absurd (Heap.lt_size e) (by rw [z]; exact Nat.not_lt.mpr hC0)
 exact hP .next .next _ _ _ .next R₅ F₅ S₆ (q' D hσD)
end
end Mine
end
noncomputable section
namespace Mine
open PySem
section
variable {C : Cx} {sc : Scope} {k : Nat}
noncomputable def f9 : Expr → Bool
 | .Slice .. => true
 | _ => false
theorem di {A : Around} {s : Shared} {slice : Expr} {o i : Value} {T id : String} {P E : Value → Shared → Prop} (hsl : f9 slice = false) (hT : s.TypeIs o T)
  (hl : typeLookup (.type T) "__getitem__" = pure (some (.builtin id))) (hg : wpAny (model C.prog C.w) A (getItem o i) P E s) :
  wpAny (model C.prog C.w) A (getitemInPython o >>= fun b => subscripted slice b o i) P E s := by
 refine wpAny_bind ?_
 rw [getitemInPython_of_ne hT.not_modules]
 refine wpAny_bind (wpAny_specialOf hT hl ?_)
 refine wpAny_pure ?_
 have : subscripted slice false o i = operate [o, i] (getItem o i) := by
  unfold subscripted
  cases slice <;> first | rfl | cases hsl
 rw [this]
 exact wpAny_operating hg
noncomputable def l6 (i : Int) (n : Nat) : Option Nat := if 0 ≤ i then (if i < n then some i.toNat else Option.none) else (if -(n : Int) ≤ i then some (i + n).toNat else Option.none)
noncomputable def aG (ns : List Int) : O2
 | .str x, .int i, σ, Q => x.length < 16777217 ∧ ∃ j c, l6 i x.length = some j ∧ x.cps.toList[j]? = some c ∧ Q (.str ⟨#[c]⟩) σ
 | .script, .int i, σ, Q => ∃ j n, 0 ≤ i ∧ l6 i ns.length = some j ∧ ns[j]? = some n ∧ Q (.int n) σ
 | .tup vs, .int i, σ, Q => vs.length < 16777217 ∧ ∃ j v, l6 i vs.length = some j ∧ vs[j]? = some v ∧ Q v σ
 | .ref a, .int i, σ, Q => ∃ xs j v, σ a = some (.list xs) ∧ l6 i xs.length = some j ∧ xs[j]? = some v ∧ Q v σ
 | _, _, _, _ => False
theorem q6 {i : Int} {n : Nat} (h : -(n : Int) ≤ i) : 0 ≤ i + n := by have := Int.add_le_add_right h n; rwa [Int.add_left_neg] at this
theorem q7 {i : Int} {n : Nat} (h : i < 0) : i + n < n := by have := Int.add_lt_add_right h (n : Int); rwa [Int.zero_add] at this
theorem i0 {i : Int} {n : Nat} (h0 : 0 ≤ i) (h : i < n) : i.toNat < n := by obtain ⟨m, rfl⟩ := Int.eq_ofNat_of_zero_le h0; exact Int.ofNat_lt.mp h
theorem nE {i : Int} {n : Nat} (h0 : 0 ≤ i) (h : i.toNat < n) : i < n := by obtain ⟨m, rfl⟩ := Int.eq_ofNat_of_zero_le h0; exact Int.ofNat_lt.mpr h
theorem nN {n : Nat} {i N : Int} (h1 : -(n : Int) ≤ i) (h2 : i < n) (hz : n ≤ 16777216) (hN : ((16777216 : Nat) : Int) ≤ N) : -N ≤ i ∧ i < N :=
 ⟨Int.le_trans (Int.neg_le_neg (Int.le_trans (Int.ofNat_le.mpr hz) hN)) h1, Int.lt_of_lt_of_le h2 (Int.le_trans (Int.ofNat_le.mpr hz) hN)⟩
theorem kJ {i : Int} {n j : Nat} (h : l6 i n = some j) : seqIndex? i n = some j := by
 unfold l6 at h
 unfold seqIndex?
 split at h
 ·split at h
  ·cases h
   rename_i h1 h2
   simp [Int.not_lt.mpr h1, h1, h2]
  ·cases h
 ·split at h
  ·cases h
   rename_i h1 h2
   have : i < 0 := by exact Int.not_le.mp h1
   simp only [this, if_true]
   rw [if_pos (by simp only [Bool.and_eq_true, decide_eq_true_eq]; exact ⟨q6 h2, q7 this⟩)]
  ·cases h
theorem kL {i : Int} {n j : Nat} (h : l6 i n = some j) : j < n ∧ -(n : Int) ≤ i ∧ i < n := by
 unfold l6 at h
 split at h
 ·split at h
  ·rename_i h1 h2; cases h; exact ⟨i0 h1 h2, Int.le_trans (Int.neg_nonpos_of_nonneg (Int.natCast_nonneg n)) h1, h2⟩
  ·cases h
 ·split at h
  ·rename_i h1 h2; cases h; exact ⟨i0 (q6 h2) (q7 (Int.not_le.mp h1)), h2, Int.lt_of_lt_of_le (Int.not_le.mp h1) (Int.natCast_nonneg n)⟩
  ·cases h
theorem l7 {A : Around} {s : Shared} {a : Addr} {ws : List Value} {i : Int} {t : Tok} {j : Nat} {w : Value} {P E : Value → Shared → Prop} (hl : s.heap.IsList a ws.toArray) (hi : l6 i ws.length = some j) (hw : ws[j]? = some w) (hz : ws.length ≤ 16777216) (q : P w s) :
  wpAny (model C.prog C.w) A (getItem (.ref a) (.int i t)) P E s := by
 have hlt := kL hi
 by_cases h0 : 0 ≤ i
 ·have : j = i.toNat := by unfold l6 at hi; rw [if_pos h0] at hi; split at hi <;> cases hi; rfl
  subst this
  exact wpAny_getItem_list hl h0 (nN hlt.2.1 hlt.2.2 hz (by decide)).2 (by simpa using hw) q
 ·have : j = (i + ws.length).toNat := by unfold l6 at hi; rw [if_neg h0] at hi; split at hi <;> cases hi; rfl
  subst this
  refine wpAny_getItem_list_neg hl (by exact Int.not_le.mp h0) (by simp; exact hlt.2.1) (nN hlt.2.1 hlt.2.2 hz (by decide)).1 (by simpa using hw) q
theorem sF (O : C.Ok) {slice : Expr} (hsl : f9 slice = false) : fT C k (fun o i => getitemInPython o >>= fun b => subscripted slice b o i) (aG C.ns) := by
 intro A s σ a b wa wb Q P E ao R va vb q hP
 cases a <;> first | exact q.elim | skip
 all_goals (cases b <;> first | exact q.elim | skip)
 ·rename_i x i
  cases va; cases vb
  obtain ⟨hx, j, c, hj, hc, q⟩ := q
  refine di hsl (typeIs_str _ _ _) F.slot_str_getitem.lookup ?_
  have hlt := kL hj
  have e : Txt.charAt x i = some c := by
   unfold Txt.charAt
   rw [kJ hj]
   simpa using hc
  refine SB.getItem ?_ (by rw [e]; rfl) ?_
  ·unfold fitsSsize; simp; exact nN hlt.2.1 hlt.2.2 (Nat.le_of_lt_succ hx) (by decide)
  ·have e2 : Txt.item x i = ⟨#[c]⟩ := by unfold Txt.item; rw [e]; rfl
   rw [e2]
   exact hP _ _ σ _ (.str _ _) (R.tok _) Step.refl q
 ·rename_i aa i
  cases va; cases vb
  obtain ⟨xs, j, v, hx, hj, hv, q⟩ := q
  obtain ⟨hz, ws, h1, h2⟩ := R.view aa _ hx
  obtain ⟨w, hw, hr⟩ := h2.get hv
  exact di hsl h1.isList.typeIs slot_list_getitem.lookup (l7 h1.isList (by rw [← h2.length]; exact hj) hw (by rw [← h2.length]; exact hz) (hP _ _ σ s hr R Step.refl q))
 ·rename_i i
  cases va; cases vb
  obtain ⟨j, n, h0, hj, hv, q⟩ := q
  obtain ⟨ws, h1, h2, h3⟩ := O.script
  obtain ⟨t, ht⟩ := h3 j n hv
  have hl : s.heap.IsList C.aS ws := h1.at fun o e => R.base _ _ e
  have hl' : s.heap.IsList C.aS ws.toList.toArray := by simpa using hl
  exact di hsl hl.typeIs slot_list_getitem.lookup (l7 hl' (by rw [h2]; exact hj) ht (by rw [h2]; exact Nat.le_trans O.few (by decide)) (hP _ _ σ s (.int n t) R Step.refl q))
 ·rename_i vs i
  cases vb
  cases va with
  | @tup _ at' ws ht hvs =>
   obtain ⟨hz, j, v, hj, hv, q⟩ := q
   obtain ⟨w, hw, hr⟩ := hvs.get hv
   have hlt := kL hj
   have htt : PyProof.Rows.IsTup s.heap at' ws.toArray := ht
   refine di hsl ht.typeIs (PyProof.Rows.slot_tuple_getitem).lookup (PyProof.Rows.getItem_tuple htt (nN hlt.2.1 hlt.2.2 (Nat.le_of_lt_succ hz) (by decide)).1 (nN hlt.2.1 hlt.2.2 (Nat.le_of_lt_succ hz) (by decide)).2 (by rw [List.size_toArray, ← hvs.length]; exact kJ hj) (by simpa using hw) (hP _ _ σ s hr R Step.refl q))
noncomputable def je (n : Nat) (lo hi : Option Int) : Nat × Nat := (lo.elim 0 (clipAt n), hi.elim n (clipAt n) - lo.elim 0 (clipAt n))
noncomputable def bv {α : Type} (l : List α) (lo hi : Option Int) : List α := (l.drop (je l.length lo hi).1).take (je l.length lo hi).2
noncomputable def qQ (ns : List Int) (lo hi : Option Int) : O1
 | .str x, σ, Q => x.length ≤ 16777216 ∧ Q (.str ⟨(bv x.cps.toList lo hi).toArray⟩) σ
 | .ref a, σ, Q => ∃ xs, σ a = some (.list xs) ∧ cR (bv xs lo hi) σ Q
 | .script, σ, Q => cR ((bv ns lo hi).map .int) σ Q
 | _, _, _ => False
structure HP (C : Cx) (sc : Scope) (k : Nat) (e : Option Expr) (T : bb → ah → (Option Int → ah → Prop) → Prop) : Prop where
 run : ∀ (env : Env) (A : Around) (s : Shared) (m : bb) (σ : ah) (Q : Option Int → ah → Prop) (P : Value → Shared → Prop) (E : Value → Shared → Prop),
  EnvOk env sc → AOk C A k → RelG C σ s → FrameRel C env m σ s.heap → T m σ Q →
  (∀ i p σ' s', i = Option.map Prod.fst p → RelG C σ' s' → Step no σ σ' s.heap s'.heap → Q i σ' → P (partValue p) s') →
  wpAny (model C.prog C.w) A (evalPart e env) P E s
noncomputable def qJ : bb → ah → (Option Int → ah → Prop) → Prop := fun _ σ Q => Q Option.none σ
noncomputable def lO (T : ET) : bb → ah → (Option Int → ah → Prop) → Prop := fun m σ Q => T m σ fun v σ' => ∃ i, v = .int i ∧ Q (some i) σ'
theorem th : HP C sc k Option.none qJ := ⟨fun env A s m σ Q P E en ao R F q hP => wpAny_pure (hP Option.none Option.none σ s rfl R Step.refl q)⟩
theorem lx {e : Expr} {T : ET} (he : HE C sc k e T) : HP C sc k (some e) (lO T) := ⟨fun env A s m σ Q P E en ao R F q hP =>
 he.run env A s m σ _ _ E en ao R F q fun v w σ' s' hv R' S' q' => by
  obtain ⟨i, rfl, q'⟩ := q'
  cases hv with
  | int i t => exact hP (Option.some i) (Option.some (i, t)) σ' s' rfl R' S' q'⟩
theorem oK {α : Type} (l : List α) (lo hi : Option Int) : (bv l lo hi).length ≤ l.length := by
 unfold bv; rw [List.length_take, List.length_drop]; exact Nat.le_trans (Nat.min_le_right _ _) (Nat.sub_le _ _)
theorem sV (n : Nat) (i : Int) : clipAt n i ≤ n := Int.ofNat_le.mp (by rw [clipAt_cast]; exact Int.max_le.mpr ⟨Int.natCast_nonneg _, Int.min_le_right _ _⟩)
theorem sT {α : Type} {l : List α} {lo hi : Option Int} (h : (je l.length lo hi).2 = l.length) : bv l lo hi = l :=
 ((List.take_sublist _ _).trans (List.drop_sublist _ _)).eq_of_length (by
  rw [List.length_take, List.length_drop, h]
  refine Nat.min_eq_left (Nat.le_trans (Nat.le_of_eq h.symm) (Nat.sub_le_sub_right ?_ _))
  cases hi with
  | none => exact Nat.le_refl _
  | some i => exact sV _ i)
theorem VRels.cut {aS : Addr} {h : Heap} {vs : List V} {ws : List Value} (x : VRels aS h vs ws) (a b : Nat) : VRels aS h ((vs.drop a).take b) ((ws.drop a).take b) := by
 have hd : ∀ (a : Nat) {vs : List V} {ws : List Value}, VRels aS h vs ws → VRels aS h (vs.drop a) (ws.drop a) := by
  intro a
  induction a with
  | zero => intro vs ws x; exact x
  | succ a ih => intro vs ws x; cases x with
   | nil => exact .nil
   | cons _ r => exact ih r
 have ht : ∀ (b : Nat) {vs : List V} {ws : List Value}, VRels aS h vs ws → VRels aS h (vs.take b) (ws.take b) := by
  intro b
  induction b with
  | zero => intro vs ws x; exact .nil
  | succ b ih => intro vs ws x; cases x with
   | nil => exact .nil
   | cons a r => exact .cons a (ih r)
 exact ht b (hd a x)
theorem oH (n : Nat) (lo hi : Option Int) : Builtin.Str.strSliceIndices lo hi 1 n = sliceRange ((lo.elim 0 (clipAt n) : Nat) : Int) ((hi.elim n (clipAt n) : Nat) : Int) 1 := by
 unfold Builtin.Str.strSliceIndices
 cases lo <;> cases hi <;> simp [clipAt_cast]
theorem t4 (x : Str) (lo hi : Option Int) : ((Builtin.Str.strSliceIndices lo hi 1 x.length).filterMap (x.cps[·]?)) = bv x.cps.toList lo hi := by
 rw [oH, sliceRange_one, pick_run]
 unfold bv je
 simp [Str.length]
noncomputable def sR (ns : List Int) (T : ET) (L U : bb → ah → (Option Int → ah → Prop) → Prop) : ET := fun m σ Q => T m σ fun v σ₁ => L m σ₁ fun lo σ₂ => U m σ₂ fun hi σ₃ => qQ ns lo hi v σ₃ Q
theorem r5 (O : C.Ok) {value : Expr} {lower upper : Option Expr} {p pos : Pos} {T : ET} {L U : bb → ah → (Option Int → ah → Prop) → Prop} (hv : HE C sc k value T) (hl : HP C sc k lower L) (hu : HP C sc k upper U) :
  HE C sc k (.Subscript value (.Slice lower upper Option.none p) pos) (sR C.ns T L U) := by
 refine ⟨?_⟩; intro env A s m σ Q P E en ao R F q hP
 rw [eval_Subscript]
 refine wpAny_bind (hv.run env A s m σ _ _ E en ao R F q fun v w σ₁ s₁ va R₁ S₁ q₁ => wpAny_bind (wpAny_holding (wpAny_Slice ?_)))
 have F₁ := F.step R S₁
 refine hl.run env A s₁ m σ₁ _ _ E en ao R₁ F₁ q₁ fun lo pl σ₂ s₂ el R₂ S₂ q₂ => ?_
 refine hu.run env A s₂ m σ₂ _ _ E en ao R₂ (F₁.step R₁ S₂) q₂ fun hi pu σ₃ s₃ eu R₃ S₃ q₃ => ?_
 rw [evalPart_none]
 refine wpAny_pure (wpAny_bind (wpAny_standAt ?_))
 have va₃ := (va.keep (S₂.tupsN R₁)).keep (S₃.tupsN R₂)
 have S₁₃ := (S₁.trans S₂).trans S₃
 have Rs : RelG C σ₃ { s₃ with heap := s₃.heap.push { cls := .type "slice", data := .fields #[partValue pl, partValue pu, .none] } } := R₃.grow (tk := s₃.toks) aV
 have part : ∀ p : Option (Int × Tok), IsPart (partValue p) (p.map (·.1)) := fun p => by
  cases p with
  | none => exact .none
  | some x => exact .int _ _
 have go : ∀ {T id : String} {o : Value} {s : Shared}, s.TypeIs o T → typeLookup (.type T) "__getitem__" = pure (some (.builtin id)) → ∀ {i : Value}, wpAny (model C.prog C.w) A (getItem o i) P E s →
   wpAny (model C.prog C.w) A ((getitemInPython o >>= fun b => subscripted (.Slice lower upper Option.none p) b o i) >>= fun r => letTemporaryGo value o r >>= fun _ => pure r) P E s := fun {T id o s} hT hl {i} hg => by
  refine wpAny_bind (wpAny_bind ?_)
  rw [getitemInPython_of_ne hT.not_modules]
  refine wpAny_bind (wpAny_specialOf hT hl (wpAny_pure ?_))
  show wpAny _ A (operate [i, o] (getItem o i)) _ _ _
  exact wpAny_operating (wpAny_mono hg (fun r s' hr => wpAny_bind (wpAny_letTemporaryGo (wpAny_pure hr))) fun _ _ x => x)
 have fin : ∀ {o i : Value} {s : Shared}, wpAny (model C.prog C.w) A ((getitemInPython o >>= fun b => subscripted (.Slice lower upper Option.none p) b o i) >>= fun r => letTemporaryGo value o r >>= fun _ => pure r) P E s →
   wpAny (model C.prog C.w) A (getitemInPython o >>= fun b => subscripted (.Slice lower upper Option.none p) b o i >>= fun r => letTemporaryGo value o r >>= fun _ => pure r) P E s := fun h => by rwa [bind_assoc] at h
 have pick : ∀ (ws : List Value), slicePick ws.toArray lo hi Option.none = (bv ws lo hi).toArray := fun ws => by
  rw [slicePick_plain]; simp [bv, je]
 have lists : ∀ (a : Addr) (vs : List V) (ws : List Value), s₃.heap.IsList a ws.toArray → VRels C.aS s₃.heap vs ws → vs.length ≤ 16777216 → cR (bv vs lo hi) σ₃ Q →
   wpAny (model C.prog C.w) A (getitemInPython (.ref a) >>= fun b => subscripted (.Slice lower upper Option.none p) b (.ref a) (.ref s₃.heap.objs.size) >>= fun r => letTemporaryGo value (.ref a) r >>= fun _ => pure r) P E { s₃ with heap := s₃.heap.push { cls := .type "slice", data := .fields #[partValue pl, partValue pu, .none] } } := fun a vs ws hla hvs hz qn => by
  refine fin (go (hla.push _).typeIs slot_list_getitem.lookup (wpAny_getItem_list_slice (lo := lo) (hi := hi) (st := Option.none) (hla.push _) (Heap.IsSliceOf.new ..) (el ▸ part pl) (eu ▸ part pu) .none (by simp) ?_ (by rw [List.size_toArray, ← hvs.length, sizeLine_eq]; exact hz)))
  rw [pick]
  have hn := bC (s₃.heap.push { cls := .type "slice", data := .fields #[partValue pl, partValue pu, .none] })
  refine hP _ _ (aY σ₃ _ (.list (bv vs lo hi))) _ (.ref _) (Rs.add (tk := s₃.toks) aV hn ⟨Nat.le_trans (oK vs lo hi) hz, bv ws lo hi, ⟨_, Heap.get?_push_size _ rfl⟩, ?_⟩) ((S₁₃.trans .push).trans .addPush) (qn _ (Rs.freshNone hn))
  have := (hvs.cut (je vs.length lo hi).1 (je vs.length lo hi).2).keep (h' := (s₃.heap.push { cls := .type "slice", data := .fields #[partValue pl, partValue pu, .none] }).push { cls := .type "list", data := .seq (bv ws lo hi).toArray }) fun _ _ e _ => aV _ _ (aV _ _ e)
  have e2 : bv ws lo hi = (ws.drop (je vs.length lo hi).1).take (je vs.length lo hi).2 := by unfold bv; rw [hvs.length]
  rw [← e2] at this
  exact this
 show wpAny _ A (getitemInPython w >>= fun b => subscripted (.Slice lower upper Option.none p) b w (.ref s₃.heap.objs.size) >>= fun r => letTemporaryGo value w r >>= fun _ => pure r) P E _
 cases va₃ with
 | none => exact q₃.elim
 | bool => exact q₃.elim
 | int => exact q₃.elim
 | ty => exact q₃.elim
 | tup => exact q₃.elim
 | script =>
  obtain ⟨ws, h1, h2, h3⟩ := O.script
  have hl : s₃.heap.IsList C.aS ws.toList.toArray := by simpa using (h1.at fun o e => R₃.base _ _ e)
  have hvs : VRels C.aS s₃.heap (C.ns.map .int) ws.toList := by
   have : ∀ (ns : List Int) (l : List Value), l.length = ns.length → (∀ (i : Nat) n, ns[i]? = Option.some n → ∃ t, l[i]? = Option.some (Value.int n t)) → VRels C.aS s₃.heap (ns.map .int) l := by
    intro ns
    induction ns with
    | nil => intro l hl _; cases l with | nil => exact .nil | cons => simp at hl
    | cons n r ih => intro l hl h; cases l with
     | nil => simp at hl
     | cons w r' =>
      obtain ⟨t, ht⟩ := h 0 n rfl
      simp at ht; subst ht
      exact .cons (.int n t) (ih r' (by simpa using hl) fun i n hi => h (i + 1) n (by simpa using hi))
   exact this _ _ h2 h3
  refine lists _ _ _ hl hvs (by have := O.few; simp; exact Nat.le_trans this (by decide)) ?_
  have e : bv (C.ns.map V.int) lo hi = (bv C.ns lo hi).map .int := by unfold bv; simp [List.map_take, List.map_drop]
  rw [e]; exact q₃
 | ref a =>
  obtain ⟨xs, hx, qn⟩ := q₃
  obtain ⟨hz, ws, h1, h2⟩ := R₃.view a _ hx
  exact lists a xs ws h1.isList h2 hz qn
 | str x t =>
  obtain ⟨hx, q₃⟩ := q₃
  refine fin (go (typeIs_str _ x t) _root_.PySem.F.slot_str_getitem.lookup (wpAny_getItem_str_slice (l := pl) (u := pu) (st := Option.none) ⟨_, Heap.get?_push_size _ rfl, rfl, rfl⟩ rfl ?_))
  have e1 : slicePicked x pl pu Option.none = Builtin.Str.strSliceIndices lo hi 1 x.length := by unfold slicePicked; rw [el, eu]; rfl
  have e2 := t4 x lo hi
  unfold sliceMade
  rw [e1, e2]
  have res : ∀ t' tk, P (.str ⟨(bv x.cps.toList lo hi).toArray⟩ t') { s₃ with heap := s₃.heap.push { cls := .type "slice", data := .fields #[partValue pl, partValue pu, .none] }, toks := tk } := fun t' tk =>
   hP _ _ σ₃ _ (.str _ _) (R₃.grow aV) (S₁₃.trans .push) q₃
  split
  ·rename_i hc
   have hlen : (Builtin.Str.strSliceIndices lo hi 1 x.length).length = x.length := by simpa using hc
   have : (⟨(bv x.cps.toList lo hi).toArray⟩ : Str) = x := by
    have hh : (bv x.cps.toList lo hi) = x.cps.toList := by
     rw [oH, sliceRange_one] at hlen
     refine sT ?_
     have hxl : x.cps.toList.length = x.length := Array.length_toList
     rw [hxl]
     simpa [je] using hlen
    rw [hh]
   have r := res t s₃.toks
   rw [this] at r
   exact r
  ·refine ⟨?_, res _ _⟩
   show (bv x.cps.toList lo hi).toArray.size ≤ sizeLine
   rw [List.size_toArray, sizeLine_eq]
   exact Nat.le_trans (oK x.cps.toList lo hi) (by rw [Array.length_toList]; exact hx)
end
end Mine
end
noncomputable section
namespace Mine
open PySem
section
variable {C : Cx} {sc : Scope} {k : Nat}
noncomputable def bg (ty : V → ah → Prop) (op : bK) (T : ET) (L : LT) : ET := fun m σ Q => T m σ fun o σ₁ => ty o σ₁ ∧ L m σ₁ fun vs σ₂ => op (o :: vs) σ₂ Q
noncomputable def s9 (C : Cx) (T : String) (ty : V → ah → Prop) : Prop := ∀ (o : V) (wo : Value) (σ : ah) (s : Shared), RelG C σ s → VRel C.aS s.heap o wo → ty o σ → s.TypeIs wo T ∧ ∀ a, wo = .ref a → ∃ ob, s.heap.get? a = some ob ∧ ob.dict = Option.none
theorem fe {T id : String} {name : Str} {o : Expr} {apos pos : Pos} {es : List Expr} {ty : V → ah → Prop} {op : bK} {To : ET} {L : LT} (hty : s9 C T ty) (pa : PlainAttrs T) (slot : Slot T name id) (hmd : typeOf (.builtin id) = pure (.type "method_descriptor"))
  (hop : mY C k (fun ws => PySem.call (.builtin id) ws) op) (ho : HE C sc k o To) (hl : HL C sc k es L) (hp : aJ es = true)
  (hbase : ∀ env, attributeBase o name env (eval o env) = eval o env) (hline : (apos.endLine == pos.line) = true) (hfew : es.length < 30) : HE C sc k (.Call (.Attribute o name apos) es [] pos) (bg ty op To L) := by
 refine ⟨?_⟩; intro env A s m σ Q P E en ao R F q hP
 have hall : (backTo pos (starEach es env)).all (fun x => !x.1) = true := by
  have := bh (env := env) (pos := pos) hp
  rw [List.any_eq_false] at this
  rw [List.all_eq_true]
  intro x hx
  have := this x hx
  simp at this
  simp [this]
 refine wpAny_Call_method (hbase env) (by rw [hall]; exact decide_eq_true hfew) hline pa slot hmd ?_
 refine ho.run env A s m σ _ _ E en ao R F q fun v w σ₁ s₁ hv R₁ S₁ q₁ => ?_
 obtain ⟨h1, h2⟩ := hty v w σ₁ s₁ R₁ hv q₁.1
 refine ⟨h1, h2, Calls.callWith_builtin (bh hp) (bn hp (hl.run env A s₁ m σ₁ pos _ _ E en ao R₁ (F.step R S₁) q₁.2 fun vs ws σ₂ s₂ hvs R₂ S₂ q₂ => ?_))⟩
 exact hop A s₂ σ₂ (v :: vs) (w :: ws) Q P E ao R₂ (.cons (hv.keep (S₂.tupsN R₁)) hvs) q₂ fun v' w' σ' s' hv' R' S' q' => hP v' w' σ' s' hv' R' ((S₁.trans S₂).trans S') q'
noncomputable def fX : V → ah → Prop
 | .str _, _ => True
 | _, _ => False
theorem iH : s9 C "str" fX := by
 intro o wo σ s R hv h
 cases hv <;> first | exact h.elim | skip
 exact ⟨typeIs_str _ _ _, fun a e => by cases e⟩
noncomputable def b8 : V → ah → Prop
 | .ref a, σ => ∃ xs, σ a = some (.list xs)
 | _, _ => False
theorem pe : s9 C "list" b8 := by
 intro o wo σ s R hv h
 cases hv <;> first | exact h.elim | skip
 obtain ⟨xs, hx⟩ := h
 obtain ⟨_, ws, h1, h2⟩ := R.view _ _ hx
 refine ⟨h1.isList.typeIs, fun b e => ?_⟩
 cases e
 obtain ⟨n, hn⟩ := h1
 exact ⟨_, hn, rfl⟩
theorem VRels.inv1 {aS : Addr} {h : Heap} {a : V} {ws : List Value} (x : VRels aS h [a] ws) : ∃ wa, ws = [wa] ∧ VRel aS h a wa := by
 cases x with
 | cons h1 r => cases r; exact ⟨_, rfl, h1⟩
theorem VRels.inv2 {aS : Addr} {h : Heap} {a b : V} {ws : List Value} (x : VRels aS h [a, b] ws) : ∃ wa wb, ws = [wa, wb] ∧ VRel aS h a wa ∧ VRel aS h b wb := by
 cases x with
 | cons h1 r => obtain ⟨wb, rfl, h2⟩ := r.inv1; exact ⟨_, _, rfl, h1, h2⟩
noncomputable def f4 : bK := fun vs σ Q => onSS vs fun x y => Q (.bool (Txt.startswith x y)) σ
theorem pG : mY C k (fun ws => PySem.call (.builtin "str.startswith") ws) f4 := by
 intro A s σ vs ws Q P E ao R hv q hP
 replace q := onSS.elim q
 obtain ⟨n0, n1, rfl, q⟩ := q
 ·obtain ⟨wa, wb, rfl, h1, h2⟩ := hv.inv2
  cases h1; cases h2
  exact SC.startswith (hP _ _ σ s (.bool _) R Step.refl q)
theorem on {aS : Addr} {h : Heap} : ∀ {ys : List Str} {ws : List Value}, VRels aS h (ys.map .str) ws → ∃ l : List (Str × Tok), ws = strValues l ∧ l.map (·.1) = ys
 | [], _, r => ⟨[], r.inv0, rfl⟩
 | y :: ys, _, r => by
  obtain ⟨w, ws, rfl, h1, r2⟩ := r.invC
  obtain ⟨t, rfl⟩ := h1.invStr
  obtain ⟨l, rfl, rfl⟩ := on r2
  exact ⟨(y, t) :: l, rfl, rfl⟩
theorem lF {aS : Addr} {h : Heap} : ∀ (l : List (Str × Tok)), VRels aS h ((l.map (·.1)).map .str) (strValues l)
 | [] => .nil
 | (x, t) :: l => .cons (.str x t) (lF l)
noncomputable def kB : bK := fun vs σ Q => onSR vs fun x a => ∃ ys : List Str, σ a = some (.list (ys.map .str)) ∧ (ys.map (·.length)).sum + ys.length * x.length ≤ 16777216 ∧ Q (.str (Str.join x ys)) σ
theorem jQ (x : Str) : ∀ (l : List Str) (n : Nat), l.foldl (fun a y => a + y.length + x.length) n = n + (l.map (·.length)).sum + l.length * x.length
 | [], n => by simp
 | y :: r, n => by
  rw [List.foldl_cons, jQ x r]
  simp [Nat.add_mul]; exact Nat.le_antisymm (bw fun hg => lN [n, (y.length), (x.length), ((List.map (fun x => x.length) r).sum), (r.length * x.length)] 0x41cc520000019003940400061 rfl hg) (bw fun hg => lN [n, (y.length), (x.length), ((List.map (fun x => x.length) r).sum), (r.length * x.length)] 0x3200728080020e62900000061 rfl hg)
theorem nL (x : Str) : ∀ ys : List Str, Builtin.Str.glued x ys = Str.join x ys := by
 have key : ∀ (r : List Str) (acc : Array Nat), (⟨r.foldl (fun acc p => acc ++ x.cps ++ p.cps) acc⟩ : Str) = match r with | [] => ⟨acc⟩ | _ => (⟨acc⟩ : Str) ++ x ++ Str.join x r := by
  intro r
  induction r with
  | nil => intro acc; rfl
  | cons y r ih =>
   intro acc
   rw [List.foldl_cons, ih]
   cases r with
   | nil => rfl
   | cons z r =>
    show (⟨acc ++ x.cps ++ y.cps⟩ : Str) ++ x ++ Str.join x (z :: r) = (⟨acc⟩ : Str) ++ x ++ (y ++ x ++ Str.join x (z :: r))
    have : ∀ a b : Str, a ++ b = ⟨a.cps ++ b.cps⟩ := fun _ _ => rfl
    simp only [this, Array.append_assoc]
 intro ys
 cases ys with
 | nil => rfl
 | cons y r =>
  unfold Builtin.Str.glued
  simp only [List.drop_one, List.tail_cons, List.headD_cons]
  rw [key]
  cases r with
  | nil => rfl
  | cons z r => rfl
theorem sE : mY C k (fun ws => PySem.call (.builtin "str.join") ws) kB := by
 intro A s σ vs ws Q P E ao R hv q hP
 replace q := onSR.elim q
 obtain ⟨x, a, rfl, q⟩ := q
 ·obtain ⟨wa, wb, rfl, h1, h2⟩ := hv.inv2
  cases h1; cases h2
  obtain ⟨ys, hy, hl, q⟩ := q
  obtain ⟨_, ws, h3, h4⟩ := R.view a _ hy
  obtain ⟨l, rfl, e⟩ := on h4
  refine SC.join (texts := ys) h3.isList e ?_ fun t' tk => ?_
  ·unfold JoinOk Builtin.Str.tooLong
   rw [← Array.foldl_toList, jQ]
   rw [sizeLine_eq]
   simp
   exact hl
  ·have : Txt.join x ys = Str.join x ys := nL x ys
   rw [this]
   exact hP _ _ σ _ (.str _ _) (R.tok _) Step.refl q
noncomputable def f5 : bK := fun vs σ Q => onSS vs fun x y => (y.length = 1 ∧ x.length ≤ 1048576) ∧ cR ((Txt.split x y).map .str) σ Q
theorem gD {A : Around} {s : Shared} {σ : ah} {xs : List V} {ws : List Value} {tk : Nat} {Q : V → ah → Prop} {P : Value → Shared → Prop} (R : RelG C σ s) (hv : VRels C.aS s.heap xs ws) (hz : xs.length ≤ 16777216) (q : cR xs σ Q) (hP : tA C σ s Q P) :
  P (.ref s.heap.objs.size) { s with heap := s.heap.push { cls := .type "list", data := .seq ws.toArray }, toks := tk } := by
 have hn := bC s.heap
 exact hP _ _ (aY σ s.heap.objs.size (.list xs)) _ (.ref _) (R.add (tk := tk) aV hn ⟨hz, ws, ⟨_, Heap.get?_push_size _ rfl⟩, hv.keep fun _ _ e _ => aV _ _ e⟩) .addPush (q _ (R.freshNone hn))
theorem qT : mY C k (fun ws => PySem.call (.builtin "str.split") ws) f5 := by
 intro A s σ vs ws Q P E ao R hv q hP
 replace q := onSS.elim q
 obtain ⟨x, y, rfl, q⟩ := q
 ·obtain ⟨wa, wb, rfl, h1, h2⟩ := hv.inv2
  cases h1 with | str _ t => cases h2 with | str _ u =>
  obtain ⟨⟨hy, hx⟩, q⟩ := q
  have hy0 : (y.length == 0) = false := by simp [hy]
  have hsz : (Builtin.Str.partsBetween x (Builtin.Str.occurrences x y 0 x.length (x.length + 1)) y.length).length ≤ 1048578 := by
   rw [length_partsBetween]
   have := StrLaws.occ_length_le x y 0 x.length (x.length + 1)
   exact Nat.succ_le_succ (Nat.le_trans this (Nat.succ_le_succ hx))
  have single : Txt.split x y = [x] → P (.ref s.heap.objs.size) { s with heap := s.heap.push { cls := .type "list", data := .seq [Value.str x t].toArray } } := fun e => by
   rw [e] at q
   exact gD (A := A) (tk := s.toks) R (.cons (.str x t) .nil) (by simp) q hP
  cases h1 : (decide (x.length < y.length) || decide (Builtin.Str.strKind x < Builtin.Str.strKind y))
  ·cases hf : (Builtin.Str.occurrences x y 0 x.length (x.length + 1)).isEmpty
   ·refine call_meets _root_.PySem.F.slot_str_split (typeIs_str _ _ _) _root_.PySem.F.entry_str_split (_root_.PySem.F.args_str_split_2 _ _) (meets_str_split_sep x y t u h1 hy0 hf (by rw [sizeLine_eq]; exact Nat.le_trans hx (by decide)) (by rw [sizeLine_eq]; exact Nat.le_trans hsz (by decide))) ?_
    have e : Txt.split x y = Builtin.Str.partsBetween x (Builtin.Str.occurrences x y 0 x.length (x.length + 1)) y.length := by unfold Txt.split; rw [h1, hf]; rfl
    rw [e] at q
    show wants P E _ { s with toks := _, heap := s.heap.push { cls := .type "list", data := .seq (strsFrom s.toks (Builtin.Str.partsBetween x (Builtin.Str.occurrences x y 0 x.length (x.length + 1)) y.length)).toArray } }
    rw [strsFrom_eq]
    refine gD (A := A) R ?_ (by rw [List.length_map]; exact Nat.le_trans hsz (by decide)) q hP
    have := lF (aS := C.aS) (h := s.heap) (numbered s.toks (Builtin.Str.partsBetween x (Builtin.Str.occurrences x y 0 x.length (x.length + 1)) y.length))
    rw [numbered_texts] at this
    exact this
   ·exact call_meets _root_.PySem.F.slot_str_split (typeIs_str _ _ _) _root_.PySem.F.entry_str_split (_root_.PySem.F.args_str_split_2 _ _) (meets_str_split_not_found x y t u h1 hy0 hf) (single (by unfold Txt.split; rw [h1, hf]; rfl))
  ·exact call_meets _root_.PySem.F.slot_str_split (typeIs_str _ _ _) _root_.PySem.F.entry_str_split (_root_.PySem.F.args_str_split_2 _ _) (meets_str_split_cannot_occur x y t u h1) (single (by unfold Txt.split; rw [h1]; rfl))
noncomputable def nH (σ : ah) (Q : V → ah → Prop) : Option AObj → Prop
 | some (.list xs) => Q (.int xs.length) σ
 | some (.dict kvs _) => Q (.int kvs.length) σ
 | some (.idict kvs _) => Q (.int kvs.length) σ
 | _ => False
noncomputable def bS (ns : List Int) : bK
 | [.str x], σ, Q => x.length ≤ 16777216 ∧ Q (.int x.length) σ
 | [.ref a], σ, Q => nH σ Q (σ a)
 | [.tup vs], σ, Q => vs.length ≤ 16777216 ∧ Q (.int vs.length) σ
 | [.script], σ, Q => Q (.int ns.length) σ
 | _, _, _ => False
theorem jW {n : Nat} (h : n ≤ 16777216) : (n : Int) < 2 ^ 63 := Int.lt_of_le_of_lt (Int.ofNat_le.mpr h) (by decide)
theorem uu (O : C.Ok) : mY C k (fun ws => PySem.call (.builtin "len") ws) (bS C.ns) := by
 intro A s σ vs ws Q P E ao R hv q hP
 cases vs with
 | nil => exact (show False from q).elim
 | cons v r =>
 cases r with
 | cons u r => cases v <;> exact (show False from q).elim
 | nil =>
 obtain ⟨wa, rfl, h1⟩ := hv.inv1
 have fin : ∀ (n : Int) (t tk : Tok), Q (.int n) σ → P (.int n t) { s with toks := tk } := fun n t tk q => hP _ _ σ _ (.int _ _) (R.tok _) Step.refl q
 clear hP
 cases h1 with
 | str x t => exact _root_.PySem.P.len_str (Int.not_le.mpr (jW q.1)) (fin _ _ _ q.2)
 | ref a =>
  have q : nH σ Q (σ a) := q
  cases hx : σ a with
  | none => rw [hx] at q; exact q.elim
  | some o =>
   rw [hx] at q
   cases o with
   | list xs =>
    obtain ⟨hz, ws, h1, h2⟩ := R.view _ _ hx
    have e := h2.length
    refine Calls.call_len_list h1.isList (by rw [List.size_toArray, ← e]; exact jW hz) ?_
    rw [List.size_toArray, ← e]
    exact fin _ _ _ q
   | dict kvs ep =>
    obtain ⟨hz, ws, h1, h2⟩ := R.view _ _ hx
    have e := h2.length
    refine call_len_dict (O.noMods (R.apart _ (by rw [hx]; simp))) h1.dictOf (by rw [← e]; exact jW hz) ?_
    rw [← e]
    exact fin _ _ _ q
   | idict kvs ep =>
    obtain ⟨hz, ws, h1, h2⟩ := R.view _ _ hx
    have e := h2.length
    refine call_len_dict (O.noMods (R.apart _ (by rw [hx]; simp))) h1.dictOf (by rw [← e]; exact jW hz) ?_
    rw [← e]
    exact fin _ _ _ q
   | _ => exact (show False from q).elim
 | @tup vs a ws ht hvs =>
  have e := hvs.length
  refine PyProof.Rows.len_tuple (show PyProof.Rows.IsTup s.heap a ws.toArray from ht) (by rw [List.size_toArray, ← e]; exact jW q.1) ?_
  rw [List.size_toArray, ← e]
  exact fin _ _ _ q.2
 | script =>
  obtain ⟨ws, h1, h2, h3⟩ := O.script
  have hl : s.heap.IsList C.aS ws := h1.at fun o e => R.base _ _ e
  have e : (ws.size : Int) = C.ns.length := by rw [← h2]; simp
  refine Calls.call_len_list hl (by rw [e]; exact jW (Nat.le_trans O.few (by decide))) ?_
  rw [e]
  exact fin _ _ _ q
 | _ => exact (show False from q).elim
noncomputable def tQ : V → ah → String → Option Bool
 | .bool _, _, T => if T = "bool" then some true else if T = "int" then some true else if T ∈ ["str", "list", "dict", "tuple"] then some false else Option.none
 | .int _, _, T => if T = "int" then some true else if T ∈ ["bool", "str", "list", "dict", "tuple"] then some false else Option.none
 | .str _, _, T => if T = "str" then some true else if T ∈ ["bool", "int", "list", "dict", "tuple"] then some false else Option.none
 | .tup _, _, T => if T = "tuple" then some true else if T ∈ ["bool", "int", "list", "dict", "str"] then some false else Option.none
 | .ref a, σ, T => match σ a with
  | some (.list _) => if T = "list" then some true else if T ∈ ["bool", "int", "tuple", "dict", "str"] then some false else Option.none
  | some (.dict _ _) => if T = "dict" then some true else if T ∈ ["bool", "int", "tuple", "list", "str"] then some false else Option.none
  | _ => Option.none
 | _, _, _ => Option.none
noncomputable def b9 : bK := fun vs σ Q => onVT vs fun v T => ∃ r, tQ v σ T = some r ∧ Q (.bool r) σ
theorem rX {M : String → Prop} {a b c d e : String} (h1 : M a) (h2 : M b) (h3 : M c) (h4 : M d) (h5 : M e) : ∀ T ∈ [a, b, c, d, e], M T := by
 intro T h
 simp only [List.mem_cons, List.not_mem_nil, or_false] at h
 rcases h with rfl | rfl | rfl | rfl | rfl <;> assumption
theorem x5 {M : String → Prop} {a b c d : String} (h1 : M a) (h2 : M b) (h3 : M c) (h4 : M d) : ∀ T ∈ [a, b, c, d], M T := by
 intro T h
 simp only [List.mem_cons, List.not_mem_nil, or_false] at h
 rcases h with rfl | rfl | rfl | rfl <;> assumption
theorem dj {M : String → Prop} {r : Bool} {T t : String} {l : List String} (hr : (if T = t then some true else if T ∈ l then some false else Option.none) = some r) (h1 : r = true → M t) (h2 : r = false → ∀ T ∈ l, M T) : M T := by
 split at hr
 ·rename_i e; cases hr; rw [e]; exact h1 rfl
 ·split at hr
  ·rename_i e; cases hr; exact h2 rfl T e
  ·cases hr
theorem pU {M : String → Prop} {r : Bool} {T t u : String} {l : List String} (hr : (if T = t then some true else if T = u then some true else if T ∈ l then some false else Option.none) = some r) (h1 : r = true → M t) (h3 : r = true → M u) (h2 : r = false → ∀ T ∈ l, M T) : M T := by
 split at hr
 ·rename_i e; cases hr; rw [e]; exact h1 rfl
 ·exact dj hr h3 h2
theorem uv : mY C k (fun ws => PySem.call (.builtin "isinstance") ws) b9 := by
 intro A s σ vs ws Q P E ao R hv q hP
 replace q := onVT.elim q
 obtain ⟨v, T, rfl, q⟩ := q
 ·obtain ⟨wa, wb, rfl, h1, h2⟩ := hv.inv2
  cases h2
  obtain ⟨r, hr, q⟩ := q
  have p0 : r = true → P (.bool true) s := fun e => hP _ _ σ _ (.bool true) R Step.refl (e ▸ q)
  have p1 : r = false → P (.bool false) { s with toks := s.toks + 1 } := fun e => hP _ _ σ _ (.bool false) (R.tok _) Step.refl (e ▸ q)
  unfold tQ at hr
  split at hr
  ·cases h1
   refine pU (M := fun T => wpAny (model C.prog C.w) A (PySem.call (.builtin "isinstance") [_, .type T]) P E s) hr ?_ ?_ ?_
   ·intro e; exact IsiPair.bool_bool (p0 e)
   ·intro e; exact IsiPair.bool_int (p0 e)
   ·intro e; refine x5 ?_ ?_ ?_ ?_
    ·exact IsiPair.bool_str (p1 e)
    ·exact IsiPair.bool_list (p1 e)
    ·exact IsiPair.bool_dict (p1 e)
    ·exact IsiPair.bool_tuple (p1 e)
  ·cases h1
   refine dj (M := fun T => wpAny (model C.prog C.w) A (PySem.call (.builtin "isinstance") [_, .type T]) P E s) hr ?_ ?_
   ·intro e; exact IsiPair.int_int (p0 e)
   ·intro e; refine rX ?_ ?_ ?_ ?_ ?_
    ·exact IsiPair.int_bool (p1 e)
    ·exact IsiPair.int_str (p1 e)
    ·exact IsiPair.int_list (p1 e)
    ·exact IsiPair.int_dict (p1 e)
    ·exact IsiPair.int_tuple (p1 e)
  ·cases h1
   refine dj (M := fun T => wpAny (model C.prog C.w) A (PySem.call (.builtin "isinstance") [_, .type T]) P E s) hr ?_ ?_
   ·intro e; exact IsiPair.str_str (p0 e)
   ·intro e; refine rX ?_ ?_ ?_ ?_ ?_
    ·exact IsiPair.str_bool (p1 e)
    ·exact IsiPair.str_int (p1 e)
    ·exact IsiPair.str_list (p1 e)
    ·exact IsiPair.str_dict (p1 e)
    ·exact IsiPair.str_tuple (p1 e)
  ·cases h1 with
   | @tup _ a ws ht hvs =>
   obtain ⟨o, ho, hc, _⟩ := ht
   refine dj (M := fun T => wpAny (model C.prog C.w) A (PySem.call (.builtin "isinstance") [_, .type T]) P E s) hr ?_ ?_
   ·intro e; exact IsiPair.tuple_tuple ho hc (p0 e)
   ·intro e; refine rX ?_ ?_ ?_ ?_ ?_
    ·exact IsiPair.tuple_bool ho hc (p1 e)
    ·exact IsiPair.tuple_int ho hc (p1 e)
    ·exact IsiPair.tuple_list ho hc (p1 e)
    ·exact IsiPair.tuple_dict ho hc (p1 e)
    ·exact IsiPair.tuple_str ho hc (p1 e)
  ·cases h1
   split at hr
   ·rename_i hx
    obtain ⟨hz, ws, ⟨n, hn⟩, h2⟩ := R.view _ _ hx
    refine dj (M := fun T => wpAny (model C.prog C.w) A (PySem.call (.builtin "isinstance") [_, .type T]) P E s) hr ?_ ?_
    ·intro e; exact IsiPair.list_list hn rfl (p0 e)
    ·intro e; refine rX ?_ ?_ ?_ ?_ ?_
     ·exact IsiPair.list_bool hn rfl (p1 e)
     ·exact IsiPair.list_int hn rfl (p1 e)
     ·exact IsiPair.list_tuple hn rfl (p1 e)
     ·exact IsiPair.list_dict hn rfl (p1 e)
     ·exact IsiPair.list_str hn rfl (p1 e)
   ·rename_i hx
    obtain ⟨hz, ws, ⟨o, es, hn, hc, _⟩, h2⟩ := R.view _ _ hx
    refine dj (M := fun T => wpAny (model C.prog C.w) A (PySem.call (.builtin "isinstance") [_, .type T]) P E s) hr ?_ ?_
    ·intro e; exact IsiPair.dict_dict hn hc.1 (p0 e)
    ·intro e; refine rX ?_ ?_ ?_ ?_ ?_
     ·exact IsiPair.dict_bool hn hc.1 (p1 e)
     ·exact IsiPair.dict_int hn hc.1 (p1 e)
     ·exact IsiPair.dict_tuple hn hc.1 (p1 e)
     ·exact IsiPair.dict_list hn hc.1 (p1 e)
     ·exact IsiPair.dict_str hn hc.1 (p1 e)
   ·cases hr
  ·cases hr
noncomputable def ot : bK := fun vs σ Q => onII vs fun a b => Q (.int (min a b)) σ
noncomputable def ov : bK := fun vs σ Q => onII vs fun a b => Q (.int (max a b)) σ
theorem ur (hz : C.held = Option.none) : mY C k (fun ws => PySem.call (.builtin "min") ws) ot := by
 intro A s σ vs ws Q P E ao R hv q hP
 replace q := onII.elim q
 obtain ⟨a, b, rfl, q⟩ := q
 ·obtain ⟨wa, wb, rfl, h1, h2⟩ := hv.inv2
  cases h1; cases h2
  refine be (min_two_ints (ao.none hz) fun h' tk hk hz => ?_)
  have R' : RelG C σ { s with heap := h', toks := tk } := R.grow hk
  have S' : Step no σ σ s.heap h' := .grow hk hz
  by_cases c : b < a
  ·rw [if_pos c]; exact hP _ _ σ _ (.int _ _) R' S' (by rwa [Int.min_eq_right (by exact Int.le_of_lt c)] at q)
  ·rw [if_neg c]; exact hP _ _ σ _ (.int _ _) R' S' (by rwa [Int.min_eq_left (by exact Int.not_lt.mp c)] at q)
theorem ut (hz : C.held = Option.none) : mY C k (fun ws => PySem.call (.builtin "max") ws) ov := by
 intro A s σ vs ws Q P E ao R hv q hP
 replace q := onII.elim q
 obtain ⟨a, b, rfl, q⟩ := q
 ·obtain ⟨wa, wb, rfl, h1, h2⟩ := hv.inv2
  cases h1; cases h2
  refine be (max_two_ints (ao.none hz) fun h' tk hk hz => ?_)
  have R' : RelG C σ { s with heap := h', toks := tk } := R.grow hk
  have S' : Step no σ σ s.heap h' := .grow hk hz
  by_cases c : b > a
  ·rw [if_pos c]; exact hP _ _ σ _ (.int _ _) R' S' (by rwa [Int.max_eq_right (by exact Int.le_of_lt c)] at q)
  ·rw [if_neg c]; exact hP _ _ σ _ (.int _ _) R' S' (by rwa [Int.max_eq_left (by exact Int.not_lt.mp c)] at q)
noncomputable def oq : bK := fun vs σ Q => onI vs fun i => i.natAbs.log2 < 1920 ∧ Q (.str (Str.ofString (toString i))) σ
theorem uj : mY C k (fun ws => PySem.call (.type "str") ws) oq := by
 intro A s σ vs ws Q P E ao R hv q hP
 replace q := onI.elim q
 obtain ⟨n0, rfl, q⟩ := q
 ·obtain ⟨wa, rfl, h1⟩ := hv.inv1
  cases h1
  exact _root_.PySem.P.str_of_int q.1 (hP _ _ σ _ (.str _ _) (R.tok _) Step.refl q.2)
end
end Mine
end
noncomputable section
namespace Mine
open PySem
section
variable {C : Cx} {sc : Scope} {k : Nat}
noncomputable def cw : O2
 | .int x, .int y, σ, Q => Q (.int (x + y)) σ
 | .str x, .str y, σ, Q => x.length + y.length ≤ 16777216 ∧ Q (.str (x ++ y)) σ
 | .ref a, .ref b, σ, Q => ∃ xs ys, σ a = some (.list xs) ∧ σ b = some (.list ys) ∧ xs.length + ys.length ≤ 16777216 ∧ cR (xs ++ ys) σ Q
 | _, _, _, _ => False
theorem cb : fT C k (binaryOp .Add) cw := by
 intro A s σ a b wa wb Q P E ao R va vb q hP
 cases a <;> first | exact q.elim | skip
 all_goals (cases b <;> first | exact q.elim | skip)
 ·cases va; cases vb
  exact _root_.PySem.P.add_int (hP _ _ σ _ (.int _ _) (R.tok _) Step.refl q)
 ·cases va; cases vb
  exact SB.add (fun t' tk => hP _ _ σ _ (.str _ _) (R.tok _) Step.refl q.2) (by rw [sizeLine_eq]; exact q.1)
 ·rename_i a b
  cases va; cases vb
  obtain ⟨xs, ys, hx, hy, hz, q⟩ := q
  obtain ⟨_, ws, ⟨n, h1⟩, h2⟩ := R.view _ _ hx
  obtain ⟨_, us, ⟨n', h3⟩, h4⟩ := R.view _ _ hy
  have e1 := h2.length
  have e2 := h4.length
  have e : ws.toArray ++ us.toArray = (ws ++ us).toArray := by simp
  refine concat_meets ⟨_, h1, rfl⟩ ⟨_, h3, rfl⟩ noFill_list_add seq_list_add _root_.PySem.F.slot_list_add _root_.PySem.F.entry_list_add (_root_.PySem.F.args_list_add_2 _ _)
   (PyProof.Rows.list_addW a b ws.toArray us.toArray n n' Option.none Option.none #[] #[] (by rw [List.size_toArray, List.size_toArray, sizeLine_eq]; exact bw fun hg => lN [(xs.length), (ys.length), (ws.length), (us.length)] 0x7302000000508c25384860c000000a129001 rfl hz (Nat.le_of_eq (Eq.symm e1)) (Nat.le_of_eq (Eq.symm e2)) hg)) ⟨h1, h3, ?_⟩
  rw [e]
  exact gD (A := A) (tk := s.toks) R (h2.append h4) (by rw [List.length_append]; exact hz) q hP
noncomputable def x6 (f : V → V → Option Bool) : List V → List V → Option Bool
 | [], [] => some true
 | a :: as, b :: bs => match f a b, x6 f as bs with
  | some x, some y => some (x && y)
  | _, _ => Option.none
 | _, _ => Option.none
theorem ww {A : Around} {s : Shared} {a b : V} {wa wb : Value} {r : Bool} (h : veq0 a b = some r) (va : VRel C.aS s.heap a wa) (vb : VRel C.aS s.heap b wb) : SeqAt.EqAt A s wa wb r := by
 revert va vb
 refine veq0.ind h (P := fun a b r => VRel C.aS s.heap a wa → VRel C.aS s.heap b wb → SeqAt.EqAt A s wa wb r) ?_ ?_ ?_ ?_ ?_ ?_ <;> intros <;> rename_i va vb <;> cases va <;> cases vb
 ·exact SeqAt.EqAt.same _
 ·exact SeqAt.EqAt.none_str _ _
 ·exact SeqAt.EqAt.str_none _ _
 ·exact SeqAt.EqAt.bool_bool _ _
 ·rw [← eZ]; exact SeqAt.EqAt.int_int _ _ _ _
 ·rw [← eZ]; exact SeqAt.EqAt.str_str _ _ _ _
noncomputable def d7 (x : V) : List V → Option Bool
 | [] => some false
 | y :: r => match veq0 y x, d7 x r with
  | some a, some b => some (a || b)
  | _, _ => Option.none
noncomputable def tV : Value → Value → Bool
 | .none, .none => true
 | .bool a, .bool b => a == b
 | .int a _, .int b _ => decide (a = b)
 | .str a _, .str b _ => decide (a = b)
 | _, _ => false
theorem rD {s : Shared} {a b : V} {wa wb : Value} {r : Bool} (h : veq0 a b = some r) (va : VRel C.aS s.heap a wa) (vb : VRel C.aS s.heap b wb) : tV wa wb = r := by
 revert va vb
 refine veq0.ind h (P := fun a b r => VRel C.aS s.heap a wa → VRel C.aS s.heap b wb → tV wa wb = r) ?_ ?_ ?_ ?_ ?_ ?_ <;> intros <;> rename_i va vb <;> cases va <;> cases vb <;> rfl
theorem gb {s : Shared} {A : Around} {x : V} {wx : Value} (hx : VRel C.aS s.heap x wx) : ∀ {ys : List V} {ws : List Value} {r : Bool}, d7 x ys = some r → VRels C.aS s.heap ys ws →
  (∀ w ∈ ws, SeqAt.EqAt A s w wx (tV w wx)) ∧ ws.any (fun w => tV w wx) = r
 | [], _, r, h, hn => by cases h; rw [hn.inv0]; exact ⟨fun _ hw => (nomatch hw), rfl⟩
 | y :: ys, _, r, h, hc => by
  obtain ⟨w, ws, rfl, hy, hr⟩ := hc.invC
  unfold d7 at h
  split at h
  ·rename_i a b h1 h2
   cases h
   obtain ⟨i1, i2⟩ := gb (A := A) hx h2 hr
   refine ⟨fun w' hw => ?_, ?_⟩
   ·rcases List.mem_cons.mp hw with rfl | hw
    ·rw [rD h1 hy hx]; exact ww h1 hy hx
    ·exact i1 w' hw
   ·rw [List.any_cons, i2, rD h1 hy hx]
  ·cases h
noncomputable def qN : O2
 | x, .ref a, σ, Q => ∃ ys r, σ a = some (.list ys) ∧ d7 x ys = some r ∧ Q (.bool r) σ
 | x, .tup ys, σ, Q => ∃ r, d7 x ys = some r ∧ Q (.bool r) σ
 | _, _, _, _ => False
noncomputable def iX : O2
 | x, .ref a, σ, Q => ∃ ys r, σ a = some (.list ys) ∧ d7 x ys = some r ∧ Q (.bool (!r)) σ
 | x, .tup ys, σ, Q => ∃ r, d7 x ys = some r ∧ Q (.bool (!r)) σ
 | _, _, _, _ => False
theorem uw : fT C k (compareOp .In) qN := by
 intro A s σ a b wa wb Q P E ao R va vb q hP
 cases b <;> first | exact q.elim | skip
 ·cases vb
  obtain ⟨ys, r, hy, hr, q⟩ := q
  obtain ⟨_, ws, h1, h2⟩ := R.view _ _ hy
  obtain ⟨i1, i2⟩ := gb (A := A.in1) va hr h2
  refine SeqAt.in_listAt (fun w => tV w wa) h1.isList (fun y hy => i1 y (by simpa using hy)) ?_
  rw [← Array.any_toList, i2]
  exact hP _ _ σ s (.bool r) R Step.refl q
 ·cases vb with | @tup _ p ws ht hvs =>
  obtain ⟨r, hr, q⟩ := q
  obtain ⟨i1, i2⟩ := gb (A := A.in1) va hr hvs
  refine SeqAt.in_tupleAt (fun w => tV w wa) ht (fun y hy => i1 y (by simpa using hy)) ?_
  rw [← Array.any_toList, i2]
  exact hP _ _ σ s (.bool r) R Step.refl q
theorem pI : fT C k (compareOp .NotIn) iX := by
 intro A s σ a b wa wb Q P E ao R va vb q hP
 cases b <;> first | exact q.elim | skip
 ·cases vb
  obtain ⟨ys, r, hy, hr, q⟩ := q
  obtain ⟨_, ws, h1, h2⟩ := R.view _ _ hy
  obtain ⟨i1, i2⟩ := gb (A := A.in1) va hr h2
  refine SeqAt.notIn_listAt (fun w => tV w wa) h1.isList (fun y hy => i1 y (by simpa using hy)) ?_
  rw [← Array.any_toList, i2]
  exact hP _ _ σ s (.bool (!r)) R Step.refl q
 ·cases vb with | @tup _ p ws ht hvs =>
  obtain ⟨r, hr, q⟩ := q
  obtain ⟨i1, i2⟩ := gb (A := A.in1) va hr hvs
  refine SeqAt.notIn_tupleAt (fun w => tV w wa) ht (fun y hy => i1 y (by simpa using hy)) ?_
  rw [← Array.any_toList, i2]
  exact hP _ _ σ s (.bool (!r)) R Step.refl q
noncomputable def bu : bK := fun vs σ Q => onRV vs fun a v => ∃ xs, σ a = some (.list xs) ∧ xs.length < 16777216 ∧ Q .none (aY σ a (.list (xs ++ [v])))
theorem pJ : mY C k (fun ws => PySem.call (.builtin "list.append") ws) bu := by
 intro A s σ vs ws Q P E ao R hv q hP
 replace q := onRV.elim q
 obtain ⟨a, v, rfl, q⟩ := q
 ·obtain ⟨wa, wb, rfl, h1, h2⟩ := hv.inv2
  cases h1
  obtain ⟨xs, hx, hz, q⟩ := q
  obtain ⟨_, ws, h3, h4⟩ := R.view _ _ hx
  have e := h4.length
  refine wpAny_list_append_plain h3 (fun h' hp' hs' => ?_) (by rw [List.size_toArray, ← e, sizeLine_eq]; (rename_i zz0; exact zz0))
  obtain ⟨n, hn⟩ := h3
  have kt : a0 s.heap h' := fun b o eb ht => hs'.extBut b o (by rintro rfl; rw [hn] at eb; cases eb; simp [fU] at ht) eb
  refine hP .none .none (aY σ a (.list (xs ++ [v]))) _ .none (R.change (tk := s.toks) hx hs' ⟨by simp; exact Nat.le_of_lt_succ hz, ws ++ [wb], by simpa using hp', (h4.append (.cons h2 .nil)).keep kt⟩) (.change hx hs') q
noncomputable def bp (op : V → V → V → ah → (ah → Prop) → Prop) (T To Ti : ET) : ST := fun m σ Q => T m σ fun v σ₁ => To m σ₁ fun o σ₂ => Ti m σ₂ fun i σ₃ => op o i v σ₃ fun σ₄ => Q .next m σ₄
noncomputable def o4 (C : Cx) (k : Nat) (op : V → V → V → ah → (ah → Prop) → Prop) : Prop :=
 ∀ (A : Around) (s : Shared) (σ : ah) (o i v : V) (wo wi w : Value) (Q : ah → Prop) (P : Unit → Shared → Prop) (E : Value → Shared → Prop), AOk C A k → RelG C σ s → VRel C.aS s.heap o wo → VRel C.aS s.heap i wi → VRel C.aS s.heap v w → op o i v σ Q →
  (∀ σ' s', RelG C σ' s' → Step no σ σ' s.heap s'.heap → Q σ' → P () s') → wpAny (model C.prog C.w) A (setItem wo wi w) P E s
theorem bx {o i value : Expr} {p pos : Pos} {op : V → V → V → ah → (ah → Prop) → Prop} {T To Ti : ET} (hop : o4 C k op) (hv : HE C sc k value T) (ho : HE C sc k o To) (hi : HE C sc k i Ti)
  (hs : ∀ env, EnvOk env sc → swapsWith value (some (.Subscript o i p)) pos.line env = pure false) : HS1 C sc k (.Assign [.Subscript o i p] value pos) (bp op T To Ti) := by
 refine ⟨?_⟩; intro env A s m σ Q P E en ao R F q hP
 refine wpAny_Assign_Subscript (hv.run env A s m σ _ _ E en ao R F q fun v w σ₁ s₁ v1 R₁ S₁ q₁ => ?_) (hs env en)
 have F₁ := F.step R S₁
 refine ho.run env A s₁ m σ₁ _ _ E en ao R₁ F₁ q₁ fun o wo σ₂ s₂ v2 R₂ S₂ q₂ => ?_
 have F₂ := F₁.step R₁ S₂
 refine hi.run env A s₂ m σ₂ _ _ E en ao R₂ F₂ q₂ fun i wi σ₃ s₃ v3 R₃ S₃ q₃ => ?_
 have F₃ := F₂.step R₂ S₃
 have k₂ := S₂.tupsN R₁
 have k₃ := S₃.tupsN R₂
 refine hop A s₃ σ₃ o i v wo wi w _ _ E ao R₃ (v2.keep k₃) v3 ((v1.keep k₂).keep k₃) q₃ fun σ₄ s₄ R₄ S₄ q₄ => ?_
 have S := ((S₁.trans S₂).trans S₃).trans S₄
 exact hP .next .next m σ₄ s₄ .next R₄ (F.step R S) S.own q₄
noncomputable def qE : V → V → V → ah → (ah → Prop) → Prop := fun o i v σ Q => isR o fun a => isI i fun i => ∃ xs j, σ a = some (.list xs) ∧ l6 i xs.length = some j ∧ Q (aY σ a (.list (xs.set j v)))
theorem qD {A : Around} {s : Shared} {l : Addr} {ws : List Value} {i : Int} {t : Tok} {j : Nat} {v : Value} {P : Unit → Shared → Prop} {E : Value → Shared → Prop} (hl : s.heap.PlainList l ws.toArray) (hi : l6 i ws.length = some j) (hz : ws.length ≤ 16777216)
  (hQ : ∀ h', h'.PlainList l (ws.set j v).toArray → Heap.SameBut l s.heap h' → P () { s with heap := h' }) : wpAny (model C.prog C.w) A (setItem (.ref l) (.int i t) v) P E s := by
 obtain ⟨n, ho⟩ := id hl
 have hT := hl.isList.typeIs
 have hlt := kL hi
 have hj : j < ws.length := hlt.1
 unfold setItem
 try with_reducible refine wpAny_holding ?_
 first | refine wpAny_bind (wpAny_pure ?_) | skip
 refine wpAny_bind (wpAny_sequenceKey hT (by decide) ?_)
 refine wpAny_bind (wpAny_callSpecial?_slot (name := Str.ofString "__setitem__") hT slot_list_setitem
  (wpAny_call_entry slot_list_setitem hT entry_list_setitem ?_ (args_list_setitem _ _ _)))
 show wpAny _ _ (Builtin.List.listSubscript? (.int i t) >>= _) _ _ s
 have hfit : Builtin.List.listFitsIndex i = true := by
  by_cases h0 : 0 ≤ i
  ·exact fitsIndex_of h0 (nN hlt.2.1 hlt.2.2 hz (by decide)).2
  ·exact fitsIndex_neg (by exact Int.not_le.mp h0) (nN hlt.2.1 hlt.2.2 hz (by decide)).1
 refine wpAny_bind (wpAny_listSubscript_int hfit ?_)
 clear hfit
 have hx' : ws.toArray[j]? = some ws[j] := by simp [hj]
 have fin : P () { s with heap := s.heap.update l (Obj.mapSeq (·.setIfInBounds j v)) } := by
  refine hQ _ ⟨n, ?_⟩ (Heap.SameBut.update ..)
  have em : Obj.mapSeq (·.setIfInBounds j v) { cls := .type "list", data := .seq ws.toArray n } = { cls := .type "list", data := .seq (ws.set j v).toArray n } := by simp [Obj.mapSeq]
  rw [Heap.get?_update_self _ ho (by rw [em]; rfl), em]
 by_cases h0 : 0 ≤ i
 ·have ej : j = i.toNat := by unfold l6 at hi; rw [if_pos h0] at hi; split at hi <;> cases hi; rfl
  obtain ⟨n', rfl⟩ := Int.eq_ofNat_of_zero_le h0
  have ej' : j = n' := by simpa using ej
  subst ej'
  show wpAny _ _ ((seqItemAt l j >>= fun r => pure (r.map (j, ·))) >>= _) _ _ s
  refine wpAny_bind (wpAny_bind (wpAny_seqItemAt ho rfl (wpAny_pure ?_)))
  rw [hx']
  show wpAny _ _ (setSeqItemAt l j v >>= _) _ _ s
  refine wpAny_bind (wpAny_setSeqItemAt ho rfl ?_)
  exact wpAny_pure ⟨.none, rfl, wpAny_pure fin⟩
 ·have hidx := kJ hi
  obtain ⟨n', rfl⟩ : ∃ j : Nat, i = Int.negSucc j := by
   cases i with
   | ofNat n => exact absurd (Int.natCast_nonneg n) h0
   | negSucc n => exact ⟨n, rfl⟩
  show wpAny _ _ ((Builtin.List.listItems (.ref l) >>= fun xs => pure ((seqIndex? (Int.negSucc n') xs.size).bind fun i => xs[i]?.map (i, ·))) >>= _) _ _ s
  refine wpAny_bind (wpAny_bind ?_)
  show wpAny _ _ (seqItems? (.ref l) >>= _) _ _ s
  refine wpAny_bind (wpAny_seqItems ho rfl (wpAny_pure (wpAny_pure ?_)))
  rw [List.size_toArray, hidx]
  simp only [Option.bind_some, hx', Option.map_some]
  show wpAny _ _ (setSeqItemAt l j v >>= _) _ _ s
  refine wpAny_bind (wpAny_setSeqItemAt ho rfl ?_)
  exact wpAny_pure ⟨.none, rfl, wpAny_pure fin⟩
theorem VRels.set {aS : Addr} {h : Heap} : ∀ {vs : List V} {ws : List Value}, VRels aS h vs ws → ∀ {v : V} {w : Value} (j : Nat), VRel aS h v w → VRels aS h (vs.set j v) (ws.set j w)
 | _, _, .nil, _, _, _, _ => .nil
 | _, _, .cons a r, _, _, 0, hv => .cons hv r
 | _, _, .cons a r, _, _, j + 1, hv => .cons a (VRels.set r j hv)
theorem oB : o4 C k qE := by
 intro A s σ o i v wo wi w Q P E ao R vo vi vv q hP
 replace q := isR.elim q
 obtain ⟨a, rfl, q⟩ := q
 replace q := isI.elim q
 obtain ⟨i, rfl, q⟩ := q
 ·cases vo; cases vi
  obtain ⟨xs, j, hx, hj, q⟩ := q
  obtain ⟨hz, ws, h1, h2⟩ := R.view _ _ hx
  refine qD (j := j) h1 (by rw [← h2.length]; exact hj) (by rw [← h2.length]; exact hz) fun h' hp' hs' => ?_
  obtain ⟨n, hn⟩ := h1
  have kt : a0 s.heap h' := fun b o eb ht => hs'.extBut b o (by rintro rfl; rw [hn] at eb; cases eb; simp [fU] at ht) eb
  exact hP (aY σ a (.list (xs.set j v))) _ (R.change (tk := s.toks) hx hs' ⟨by simpa using hz, ws.set j w, hp', (h2.set j vv).keep kt⟩) (.change hx hs') q
noncomputable def bV (l : List (String × Pos)) : List Expr := l.map fun p => Expr.Name (Str.ofString p.1) p.2
theorem jR (p : String × Pos) (l : List (String × Pos)) (env : Env) : assignEach (bV (p :: l)) env = (false, assign (.Name (Str.ofString p.1) p.2) env) :: assignEach (bV l) env := rfl
theorem dk (env : Env) : ∀ (l : List (String × Pos)), (assignEach (bV l) env).length = l.length ∧ (assignEach (bV l) env).findIdx? (·.1) = Option.none
 | [] => ⟨rfl, rfl⟩
 | p :: r => by
  rw [jR]
  refine ⟨by simp [(dk env r).1], ?_⟩
  rw [List.findIdx?_cons]
  simp [(dk env r).2]
theorem gY {env : Env} {A : Around} {E : Value → Shared → Prop} (en : EnvOk env sc) (l : List (String × Pos)) : ∀ (vs : List V) (ws : List Value) (s : Shared) (m : bb) (σ : ah) (P : Unit → Shared → Prop), l.length = vs.length → (∀ x ∈ l, sc.names.lookup (Str.ofString x.1) = some .local) →
  RelG C σ s → FrameRel C env m σ s.heap → VRels C.aS s.heap vs ws →
  (∀ s', RelG C σ s' → FrameRel C env (aC (l.map (·.1)) vs m) σ s'.heap → Step (fun b => b = env.locals) σ σ s.heap s'.heap → P () s') →
  wpAny (model C.prog C.w) A (assignInOrder ((assignEach (bV l) env).map (·.2)) ws) P E s := by
 induction l with
 | nil =>
  intro vs ws s m σ P h1 h2 R F hv h
  cases vs with
  | nil => cases hv; exact wpAny_pure (h s R F Step.refl)
  | cons => simp at h1
 | cons x l ih =>
  intro vs ws s m σ P h1 h2 R F hv h
  cases vs with
  | nil => simp at h1
  | cons v vs =>
   cases hv with | @cons _ w _ ws hv hvs =>
   rw [jR, List.map_cons]
   have e : assignInOrder (assign (.Name (Str.ofString x.1) x.2) env :: (assignEach (bV l) env).map (·.2)) (w :: ws) = (do holding ws (assign (.Name (Str.ofString x.1) x.2) env w); assignInOrder ((assignEach (bV l) env).map (·.2)) ws) := by rw [assignInOrder]
   show wpAny _ A (assignInOrder (assign (.Name (Str.ofString x.1) x.2) env :: (assignEach (bV l) env).map (·.2)) (w :: ws)) P E s
   rw [e]
   refine wpAny_bind (wpAny_holding (wpAny_assign_Name (cY en R F (h2 x (.head _)) hv fun s₁ R₁ F₁ S₁ => ?_)))
   have kt : a0 s.heap s₁.heap := S₁.tups R fun b o z e => by subst z; exact F.ownT _ o (.inl rfl) e
   exact ih vs ws s₁ (put m x.1 v) σ P (by simpa using h1) (fun y hy => h2 y (.tail _ hy)) R₁ F₁ (hvs.keep kt) fun s₂ R₂ F₂ S₂ => h s₂ R₂ F₂ (S₁.trans S₂)
theorem FrameRel.grow {env : Env} {m : bb} {σ : ah} {h h' : Heap} (F : FrameRel C env m σ h) (keep : ∀ b o, h.get? b = some o → h'.get? b = some o) : FrameRel C env m σ h' := by
 have kt : a0 h h' := fun b o e _ => keep b o e
 have kc : ∀ c v, h.IsCell c v → h'.IsCell c v := fun c v ⟨o, ho, hd⟩ => ⟨o, keep c o ho, hd⟩
 obtain ⟨mm, hn, hv⟩ := F.ns
 refine ⟨⟨mm, hn.keeps keep, fun x v e k => ?_⟩, fun x v e => ?_, fun n c e => ?_, F.sepL, F.baseL, F.baseC, F.dist, F.has⟩
 ·obtain ⟨w, h1, h2⟩ := hv x v e k; exact ⟨w, h1, h2.keep kt⟩
 ·rcases F.cel x v e with q | ⟨q, c, w, h1, h2, h3⟩
  ·exact .inl q
  ·exact .inr ⟨q, c, w, h1, kc _ _ h2, h3.keep kt⟩
 ·obtain ⟨v, hv⟩ := F.cells n c e; exact ⟨v, kc _ _ hv⟩
theorem lw (O : C.Ok) {l : List (String × Pos)} {n : Nat} {pos : Pos} (hx : ∀ x ∈ l, sc.names.lookup (Str.ofString x.1) = some .local) : HT C sc k true (.Tuple (bV l) n pos) (.tup (l.map (·.1))) := by
 refine ⟨?_⟩; intro env A s m m' σ v w P E en ao R F hv hb hP
 cases v <;> simp only [dJ] at hb <;> first | cases hb | skip
 split at hb
 ·rename_i vs hlen
  cases hb
  cases hv with | @tup _ t ws ht hvs =>
  have hlen' : l.length = vs.length := by simpa using hlen
  refine be (oP (ao.hd O R) ht (by rw [(dk env _).1, List.size_toArray, ← hvs.length, hlen']) (dk env _).2 fun h' hx' => ?_)
  have keep : ∀ b o, s.heap.get? b = some o → h'.get? b = some o := fun b o e => hx' b o (Nat.ne_of_lt (Heap.lt_size e)) e
  have e : ws.toArray.toList = ws := by simp
  rw [e]
  refine gY en l vs ws _ m σ _ hlen' hx (R.grow (tk := s.toks) keep) (F.grow keep) (hvs.keep fun b o e _ => keep b o e) fun s₂ R₂ F₂ S₂ hsz => ?_
  exact hP s₂ R₂ F₂ ⟨fun b o e n q => S₂.keepL b o (keep b o e) n fun z => q (.inl z), hsz, fun _ a b => absurd a b⟩
 ·cases hb
end
end Mine
end
noncomputable section
namespace Mine
open PySem PySem.W PyProof.Rows PySem.Calls
noncomputable def bi (p : Program) (n : Nat) : List Stmt := match p.main.body[n]? with | some (.FunctionDef _ _ b _ _ _ _ _ _ _) => b | _ => []
noncomputable def aR (p : Program) (n : Nat) : Scope := match p.main.body[n]? with | some (.FunctionDef _ _ _ _ _ _ s _ _ _) => s | _ => default
noncomputable def qI (p : Program) (n : Nat) : Arguments := match p.main.body[n]? with | some (.FunctionDef _ a _ _ _ _ _ _ _ _) => a | _ => default
noncomputable def v5 (p : Program) (n : Nat) : Pos := match p.main.body[n]? with | some (.FunctionDef _ _ _ _ _ _ _ _ _ q) => q | _ => default
noncomputable def FnAt (C : Cx) (j : Nat) (f : String) (spec : bK) : Prop :=
 ∃ a o fd, C.mg (Str.ofString f) = some (.ref a) ∧ C.hB.get? a = some o ∧ o.data = .func fd ∧ FnSound C j a spec
structure Gl (C : Cx) (p : Program) : Prop where
 ok : C.Ok
 mb : ∀ x : Str, x ≠ "__name__" → C.mb x = bootBuiltins x
 free : ∀ x ∈ ["len", "range", "min", "max", "isinstance", "bool", "str", "int", "list", "dict", "set", "sorted", "tuple", "sum", "type"], C.mg (Str.ofString x) = Option.none
 fn : ∀ d ∈ recsOf p, ∃ a o pm code doc, C.mg d.name = some (.ref a) ∧ C.hB.get? a = some o ∧ o.data = .func (docDef d.name d.params d.body d.scope pm code doc) ∧ C.hB.CodeRec code d.name
variable {C : Cx} {p : Program}
theorem Gl.blt (G : Gl C p) {x : String} {v : Value} (h : bootBuiltins (Str.ofString x) = some v) (hx : x ≠ "__name__") : C.mb (Str.ofString x) = some v := by
 rw [G.mb _ (fun e => hx (bR e)), h]
theorem aB (G : Gl C p) {sc : Scope} {k : Nat} {f : String} {np pos : Pos} {es : List Expr} {L : LT} {spec : bK} {j : Nat} (hf : FnAt C j f spec) (hj : j < k)
  (hn : sc.names.lookup (Str.ofString f) = some .globalImplicit) (hdb : (Str.ofString f == ("__debug__" : Str)) = false)
  (hl : HL C sc k es L) (hp : aJ es = true) : HE C sc k (.Call (.Name (Str.ofString f) np) es [] pos) (aE spec L) := by
 obtain ⟨a, o, fd, h1, h2, h3, h4⟩ := hf
 exact tz G.ok h4 hj hn h1 h2 h3 hdb hl hp
theorem FnAt.mk (G : Gl C p) (i n : Nat) {f : String} {xs : List String} {j : Nat} {spec : bK} {T : ST}
  (hm : (recsOf p)[i]? = some ⟨Str.ofString f, qI p n, bi p n, aR p n, v5 p n⟩)
  (hk : (aR p n).kind = .function) (hfr : ((aR p n).names.all fun q => q.2 != .free) = true) (hco : (aR p n).isCoroutine = false) (hgen : (aR p n).isGenerator = false)
  (hbind : ∀ (ws : List Value) (pm code doc : Value), ws.length = xs.length → bindArgs (docDef (Str.ofString f) (qI p n) (bi p n) (aR p n) pm code doc) ⟨ws, []⟩ = pure ((xs.map Str.ofString).zip ws))
  (hloc : (xs.all fun x => (aR p n).names.lookup (Str.ofString x) == some .local || (aR p n).names.lookup (Str.ofString x) == some .cell) = true)
  (hT : HS C (aR p n) j (bi p n) T)
  (hspec : ∀ vs σ Q, spec vs σ Q → vs.length = xs.length ∧ T (aC xs vs aH) σ fun f _ σ' => match f with | .ret v => Q v σ' | .next => Q .none σ' | _ => False) : FnAt C j f spec := by
 obtain ⟨a, o, pm, code, doc, h1, h2, h3, h4⟩ := G.fn _ (List.mem_of_getElem? hm)
 refine ⟨a, o, _, h1, h2, h3, FnSound.mk G.ok (xs := xs) h2 h3 h4 rfl rfl rfl rfl rfl hk ?_ hco hgen (fun ws hw => hbind ws pm code doc hw) ?_ hT hspec⟩
 ·intro q hq
  have := List.all_eq_true.mp hfr q hq
  simpa using this
 ·intro x hx
  have := List.all_eq_true.mp hloc x hx
  simp only [Bool.or_eq_true, beq_iff_eq] at this
  exact this
noncomputable def tH : bK := fun vs σ Q => vs = [.script] ∧ (∀ a, σ a = Option.none) ∧ ∀ σ', Q (.bool true) σ'
theorem lY {vs : List Value} {ns : List Int} (h : IntsAre vs ns) : vs.length = ns.length ∧ ∀ (i : Nat) n, ns[i]? = some n → ∃ t, vs[i]? = some (Value.int n t) := by
 induction h with
 | nil => exact ⟨rfl, fun i n e => by simp at e⟩
 | cons a t h ih =>
  refine ⟨by simp [ih.1], fun i n e => ?_⟩
  cases i with
  | zero => simp at e; subst e; exact ⟨_, rfl⟩
  | succ i => simpa using ih.2 i n (by simpa using e)
theorem Cx.ok_of {C : Cx} (hz : C.held = none) {vs : List Value} {loose : List Str} {mean : ExcName → Option Value} (T : Top p loose mean C.mg C.mb C.hB) (hi : importsNone p = true) (hL : C.hB.IsList C.aS vs.toArray) (hI : IntsAre vs C.ns) (hn : ¬ (63 : Int) < (C.ns.length : Int)) : C.Ok where
 g := T.g
 b := T.b
 nolimit := T.nolimit
 mods := by obtain ⟨mm, ⟨o, _, _, ho, _⟩, _⟩ := (T.seer hi).mods; exact ⟨o, ho⟩
 few := by omega
 heldOk := fun e he => by rw [hz] at he; cases he
 script := ⟨_, hL, by simpa using (lY hI).1, by simpa using (lY hI).2⟩
theorem Gl.of {C : Cx} {loose : List Str} {mean : ExcName → Option Value} (T : Top p loose mean C.mg C.mb C.hB) (ok : C.Ok)
  (hf : (["len", "range", "min", "max", "isinstance", "bool", "str", "int", "list", "dict", "set", "sorted", "tuple", "sum", "type"].all fun x : String => !(startupNames ++ loose ++ (recsOf p).map (·.name) ++ (litsOf p).map (·.1) ++ (clssOf p loose).map (·.name)).contains (Str.ofString x)) = true) : Gl C p where
 ok := ok
 mb := T.builtins
 fn := T.fn
 free := fun x hx => by
  have := List.all_eq_true.mp hf x hx
  simp only [Bool.not_eq_true', List.contains_eq_mem, decide_eq_false_iff_not, List.mem_append, not_or] at this
  obtain ⟨⟨⟨⟨h1, h2⟩, h3⟩, h4⟩, h5⟩ := this
  exact T.free _ h1 h2 h3 h4 h5
theorem ri {C : Cx} (hz : C.held = none) {f : Addr} {j : Nat} {r : OpenLaw} {args : List WData} {cl : Str → Option Addr} {mean : ExcName → Option Value} (hf : FnSound C j f tH) (hj : j ≤ 100) (hg : C.s₁.gens = #[])
  (hn : ∀ cls, r.row.claim.raises args cls = false) (hp : r.row.claim.post args (.bool true) args = true) :
  codeAny (model C.prog C.w) callerA (.call (.ref f) ⟨[.ref C.aS], []⟩) (GoodWG r.row.claim cl mean args C.s₁) C.s₁ := by
 refine codeAny_mono (hf callerA C.s₁ (fun _ => Option.none) [.script] [.ref C.aS] (fun v σ => v = .bool true) (fun w s' => w = .bool true ∧ ∃ σ', RelG C σ' s') (fun _ _ => False) ⟨by rw [hz]; rfl, ?_, ?_⟩ ⟨⟨_, _, _, rfl⟩, fun _ _ e => e, fun _ _ e => by (cases e), fun _ e => absurd rfl e⟩ (.cons .script .nil) ⟨rfl, fun _ => rfl, fun _ => rfl⟩ ?_) ?_
 ·show 1 + claimMargin + 3 * (j + 1) + 3 < recursionLimit
  have : claimMargin = 300 := rfl
  have : recursionLimit = 1000 := rfl
  omega
 ·show 4 + 10 * (j + 1) + 20 < cLine
  unfold cLine
  omega
 ·intro v w σ' s' hv R' S' q
  subst q
  cases hv with | bool b => exact ⟨rfl, σ', R'⟩
 ·intro res s' h
  cases res with
  | error e => exact h.elim
  | ok fl =>
   cases fl with
   | ret v =>
    obtain ⟨rfl, σ', R'⟩ := h
    obtain ⟨h₁, tk, d₁, e⟩ := R'.rest
    refine GoodW.toG ⟨.inl ⟨_, .bool true, [], rfl, hn, .bool true, hp, fun _ => ⟨List.nodup_nil, fun a h => by cases h⟩⟩, R'.base, ?_, ?_⟩
    ·rw [e]
    ·rw [e]; exact hg
   | _ => exact h.elim
end Mine
end
noncomputable section
namespace Mine
open PySem PySem.W PyProof.Rows PySem.Calls
section
variable {C : Cx} {p : Program} {sc : Scope} {k : Nat}
theorem u5 : bootBuiltins (Str.ofString "len") = some (.builtin "len") := by decide +kernel
theorem u4 : bootBuiltins (Str.ofString "min") = some (.builtin "min") := by decide +kernel
theorem rS : bootBuiltins (Str.ofString "max") = some (.builtin "max") := by decide +kernel
theorem u6 : bootBuiltins (Str.ofString "isinstance") = some (.builtin "isinstance") := by decide +kernel
theorem mz : bootBuiltins (Str.ofString "range") = some (.type "range") := by decide +kernel
theorem sZ : bootBuiltins (Str.ofString "bool") = some (.type "bool") := by decide +kernel
theorem uZ : bootBuiltins (Str.ofString "str") = some (.type "str") := by decide +kernel
theorem u7 : bootBuiltins (Str.ofString "int") = some (.type "int") := by decide +kernel
theorem sX : bootBuiltins (Str.ofString "list") = some (.type "list") := by decide +kernel
theorem sY : bootBuiltins (Str.ofString "dict") = some (.type "dict") := by decide +kernel
theorem co (G : Gl C p) {np pos : Pos} {es : List Expr} {L : LT} (hn : sc.names.lookup (Str.ofString "len") = some .globalImplicit) (hl : HL C sc k es L) (hp : aJ es = true) : HE C sc k (.Call (.Name (Str.ofString "len") np) es [] pos) (aE (bS C.ns) L) :=
 cq G.ok (uu G.ok) hn (G.free _ (by decide)) (G.blt u5 (by decide)) rfl hl hp
theorem tn (G : Gl C p) (hz : C.held = Option.none) {np pos : Pos} {es : List Expr} {L : LT} (hn : sc.names.lookup (Str.ofString "min") = some .globalImplicit) (hl : HL C sc k es L) (hp : aJ es = true) : HE C sc k (.Call (.Name (Str.ofString "min") np) es [] pos) (aE ot L) :=
 cq G.ok (ur hz) hn (G.free _ (by decide)) (G.blt u4 (by decide)) rfl hl hp
theorem tt (G : Gl C p) (hz : C.held = Option.none) {np pos : Pos} {es : List Expr} {L : LT} (hn : sc.names.lookup (Str.ofString "max") = some .globalImplicit) (hl : HL C sc k es L) (hp : aJ es = true) : HE C sc k (.Call (.Name (Str.ofString "max") np) es [] pos) (aE ov L) :=
 cq G.ok (ut hz) hn (G.free _ (by decide)) (G.blt rS (by decide)) rfl hl hp
theorem jv (G : Gl C p) {np pos : Pos} {es : List Expr} {L : LT} (hn : sc.names.lookup (Str.ofString "isinstance") = some .globalImplicit) (hl : HL C sc k es L) (hp : aJ es = true) : HE C sc k (.Call (.Name (Str.ofString "isinstance") np) es [] pos) (aE b9 L) :=
 cq G.ok uv hn (G.free _ (by decide)) (G.blt u6 (by decide)) rfl hl hp
theorem tl (G : Gl C p) {np pos : Pos} {es : List Expr} {L : LT} (hn : sc.names.lookup (Str.ofString "str") = some .globalImplicit) (hl : HL C sc k es L) (hp : aJ es = true) : HE C sc k (.Call (.Name (Str.ofString "str") np) es [] pos) (aE oq L) :=
 m8 G.ok uj hn (G.free _ (by decide)) (G.blt uZ (by decide)) rfl hl hp
theorem gN (G : Gl C p) (hz : C.held = Option.none) {np pos : Pos} {es : List Expr} {L : LT} (hn : sc.names.lookup (Str.ofString "range") = some .globalImplicit) (hl : HL C sc k es L) (hp : aJ es = true) : HI C sc k (.Call (.Name (Str.ofString "range") np) es [] pos) (dB L) :=
 rY G.ok hz hl hp hn (G.free _ (by decide)) (G.blt mz (by decide))
theorem m7 (G : Gl C p) {pos : Pos} (h : sc.names.lookup (Str.ofString "bool") = some .globalImplicit) : HE C sc k (.Name (Str.ofString "bool") pos) (aw (.ty "bool")) := oa G.ok h (G.free _ (by decide)) (G.blt sZ (by decide)) rfl
theorem o8 (G : Gl C p) {pos : Pos} (h : sc.names.lookup (Str.ofString "int") = some .globalImplicit) : HE C sc k (.Name (Str.ofString "int") pos) (aw (.ty "int")) := oa G.ok h (G.free _ (by decide)) (G.blt u7 (by decide)) rfl
theorem r4 (G : Gl C p) {pos : Pos} (h : sc.names.lookup (Str.ofString "list") = some .globalImplicit) : HE C sc k (.Name (Str.ofString "list") pos) (aw (.ty "list")) := oa G.ok h (G.free _ (by decide)) (G.blt sX (by decide)) rfl
theorem m5 {o : Expr} {apos pos : Pos} {es : List Expr} {To : ET} {L : LT} (ho : HE C sc k o To) (hl : HL C sc k es L) (hp : aJ es = true)
  (hbase : ∀ env, attributeBase o (Str.ofString "split") env (eval o env) = eval o env) (hline : (apos.endLine == pos.line) = true) (hfew : es.length < 30) : HE C sc k (.Call (.Attribute o (Str.ofString "split") apos) es [] pos) (bg fX f5 To L) :=
 fe iH F.plainAttrs_str F.slot_str_split F.type_str_split qT ho hl hp hbase hline hfew
theorem tw {o : Expr} {apos pos : Pos} {es : List Expr} {To : ET} {L : LT} (ho : HE C sc k o To) (hl : HL C sc k es L) (hp : aJ es = true)
  (hbase : ∀ env, attributeBase o (Str.ofString "join") env (eval o env) = eval o env) (hline : (apos.endLine == pos.line) = true) (hfew : es.length < 30) : HE C sc k (.Call (.Attribute o (Str.ofString "join") apos) es [] pos) (bg fX kB To L) :=
 fe iH F.plainAttrs_str F.slot_str_join F.type_str_join sE ho hl hp hbase hline hfew
theorem qg {o : Expr} {apos pos : Pos} {es : List Expr} {To : ET} {L : LT} (ho : HE C sc k o To) (hl : HL C sc k es L) (hp : aJ es = true)
  (hbase : ∀ env, attributeBase o (Str.ofString "startswith") env (eval o env) = eval o env) (hline : (apos.endLine == pos.line) = true) (hfew : es.length < 30) : HE C sc k (.Call (.Attribute o (Str.ofString "startswith") apos) es [] pos) (bg fX f4 To L) :=
 fe iH F.plainAttrs_str F.slot_str_startswith F.type_str_startswith pG ho hl hp hbase hline hfew
theorem bL {o : Expr} {apos pos : Pos} {es : List Expr} {To : ET} {L : LT} (ho : HE C sc k o To) (hl : HL C sc k es L) (hp : aJ es = true)
  (hbase : ∀ env, attributeBase o (Str.ofString "append") env (eval o env) = eval o env) (hline : (apos.endLine == pos.line) = true) (hfew : es.length < 30) : HE C sc k (.Call (.Attribute o (Str.ofString "append") apos) es [] pos) (bg b8 bu To L) :=
 fe pe F.plainAttrs_list F.slot_list_append F.type_list_append pJ ho hl hp hbase hline hfew
theorem aP (G : Gl C p) {value slice : Expr} {pos : Pos} {T U : ET} (hv : HE C sc k value T) (hi : HE C sc k slice U) (hs : f9 slice = false) : HE C sc k (.Subscript value slice pos) (av (aG C.ns) T U) :=
 r0 hv hi (sF G.ok hs)
noncomputable def rN (sc cs : Scope) (fv gs : List String) : Bool :=
 cs.kind == .function && cs.names.all (fun y => y.2 != .cell) && cs.names.all (fun y => y.2 != .local || cs.names.lookup y.1 == some .local) && decide (cs.names.map (·.1)).Nodup &&
 cs.names.all (fun q => q.2 != .free || fv.any fun x => Str.ofString x == q.1) && fv.all (fun x => cs.names.contains (Str.ofString x, NameKind.free) && (sc.names.lookup (Str.ofString x) == some .cell || sc.names.lookup (Str.ofString x) == some .free)) && gs.all fun x => !fv.contains x
theorem CompOk.of {sc cs : Scope} {fv : List String} {g : Tgt} (h : rN sc cs fv g.names = true) : CompOk sc cs fv g := by
 unfold rN at h
 simp only [Bool.and_eq_true, List.all_eq_true, Bool.or_eq_true, bne_iff_ne, beq_iff_eq, decide_eq_true_eq, List.any_eq_true, Bool.not_eq_true', List.contains_eq_mem, decide_eq_false_iff_not] at h
 obtain ⟨⟨⟨⟨⟨⟨h1, h2⟩, h3⟩, h4⟩, h5⟩, h6⟩, h7⟩ := h
 refine ⟨h1, h2, fun y hy e => (h3 y hy).elim (fun n => absurd e n) id, h4, fun q hq e => (h5 q hq).elim (fun n => absurd e n) id, fun x hx => ⟨(h6 x hx).1, (h6 x hx).2⟩, h7⟩
theorem b0 {elt : Expr} {gens : List Comprehension} {cs : Scope} {pos : Pos} {t : Str} {q : Pos} {line : Nat} (h : sc.names.lookup t = some .local) (hl : (q.line == pos.line) = true) (hn : (cs.names.any fun y => y.1 == t && (y.2 == .local || y.2 == .cell)) = false) :
  ∀ env, EnvOk env sc → swapsWith (.ListComp elt gens cs pos) (some (.Name t q)) line env = pure true := by
 intro env en
 unfold swapsWith
 have e : env.kindOf t = some .local := en.of h
 have e2 : env.blockKind = .function := by unfold Env.blockKind; rw [en.k]; rfl
 have e3 : (Expr.ListComp elt gens cs pos).pos.line = pos.line := rfl
 simp only [e, e2, e3, hl, hn]
 rfl
end
end Mine
end
noncomputable section
namespace Mine
open PySem PySem.W PyProof.Rows PySem.Calls
noncomputable def Grow (σ σ' : ah) : Prop := ∀ b o, σ b = some o → σ' b = some o
theorem Grow.refl {σ : ah} : Grow σ σ := fun _ _ e => e
theorem Grow.trans {σ₁ σ₂ σ₃ : ah} (h : Grow σ₁ σ₂) (h' : Grow σ₂ σ₃) : Grow σ₁ σ₃ := fun b o e => h' b o (h b o e)
theorem Grow.upd {σ σ' : ah} {a : Addr} {o : AObj} (h : Grow σ σ') (ha : σ' a = Option.none) : Grow σ (aY σ' a o) := fun b o' e => by
 rw [r8 ha (h b o' e)]
noncomputable def dK (xs : List V) (σ : ah) (Q : V → ah → Prop) : Prop := ∀ a σ', Grow σ σ' → σ a = Option.none → σ' a = some (.list xs) → Q (.ref a) σ'
theorem Grow.none {σ σ' : ah} (h : Grow σ σ') {a : Addr} (ha : σ' a = Option.none) : σ a = Option.none := by
 cases e : σ a with
 | none => rfl
 | some o => rw [h a o e] at ha; cases ha
theorem gL {g : Tgt} {inv : ah → Prop} {T : ET} {m : bb} (P : ah → Prop) (hinv : ∀ σ, P σ → inv σ) :
  ∀ (items ys acc : List V) (σ : ah) (Q : List V → ah → Prop), ys.length = items.length → acc.length + items.length ≤ 1048576 →
  (∀ (i : Nat) v y, items[i]? = some v → ys[i]? = some y → ∀ σ (Q' : V → ah → Prop), P σ → (∀ σ', P σ' → Q' y σ') → ∃ m', dJ g v m = some m' ∧ T m' σ Q') →
  P σ → (∀ σ', P σ' → Q (acc ++ ys) σ') → bU g inv tT T m items acc σ Q
 | [], ys, acc, σ, Q, hl, hz, step, p, q => by
  have : ys = [] := List.length_eq_zero_iff.mp hl
  subst this
  simp only [bU]
  exact ⟨hinv σ p, by simpa using q σ p⟩
 | v :: r, [], acc, σ, Q, hl, hz, step, p, q => by simp at hl
 | v :: r, y :: ys, acc, σ, Q, hl, hz, step, p, q => by
  simp only [bU]
  obtain ⟨m', h1, h2⟩ := step 0 v y rfl rfl σ (fun y σ₂ => acc.length < 1048576 ∧ bU g inv tT T m r (acc ++ [y]) σ₂ Q) p (fun σ' p' => by
   simp at hz hl
   refine ⟨by exact Nat.lt_of_le_of_lt (Nat.le_add_right _ _) hz, gL P hinv r ys (acc ++ [y]) σ' Q hl (by simp; exact bw fun hg => lN [(acc.length), (r.length)] 0x520c010000028461080000142519001 rfl hz hg) (fun i v y e1 e2 => step (i + 1) v y (by simpa using e1) (by simpa using e2)) p' fun σ'' p'' => ?_⟩
   simpa using q σ'' p'')
  exact ⟨hinv σ p, m', h1, by simpa [tT] using h2⟩
theorem bH {g : Tgt} {inv : ah → Prop} {B : BT} {T : ET} {m : bb} (P : ah → Prop) (hinv : ∀ σ, P σ → inv σ) (f : V → Option V) :
  ∀ (items acc : List V) (σ : ah) (Q : List V → ah → Prop), acc.length + items.length ≤ 1048576 →
  (∀ v ∈ items, ∀ σ (Q₁ : V → ah → Prop) (Q₂ : ah → Prop), P σ → (∀ σ' y, P σ' → f v = some y → Q₁ y σ') → (∀ σ', P σ' → f v = Option.none → Q₂ σ') → ∃ m', dJ g v m = some m' ∧ B m' σ fun b σ₁ => if b then T m' σ₁ Q₁ else Q₂ σ₁) →
  P σ → (∀ σ', P σ' → Q (acc ++ items.filterMap f) σ') → bU g inv B T m items acc σ Q
 | [], acc, σ, Q, hz, step, p, q => by
  simp only [bU]
  exact ⟨hinv σ p, by simpa using q σ p⟩
 | v :: r, acc, σ, Q, hz, step, p, q => by
  simp only [bU]
  simp at hz
  obtain ⟨m', h1, h2⟩ := step v (.head _) σ (fun y σ₂ => acc.length < 1048576 ∧ bU g inv B T m r (acc ++ [y]) σ₂ Q) (fun σ₁ => bU g inv B T m r acc σ₁ Q) p
   (fun σ' y p' e => ⟨by exact Nat.lt_of_le_of_lt (Nat.le_add_right _ _) hz, bH P hinv f r (acc ++ [y]) σ' Q (by simp; exact bw fun hg => lN [(acc.length), (r.length)] 0x520c010000028461080000142519001 rfl hz hg) (fun v hv => step v (.tail _ hv)) p' fun σ'' p'' => by simpa [e] using q σ'' p''⟩)
   (fun σ' p' e => bH P hinv f r acc σ' Q (by exact Nat.le_of_lt hz) (fun v hv => step v (.tail _ hv)) p' fun σ'' p'' => by simpa [e] using q σ'' p'')
  exact ⟨hinv σ p, m', h1, h2⟩
theorem aZ {g : Tgt} {inv : ah → Prop} {T : ST} (I : Nat → bb → ah → Prop) (R : V → bb → ah → Prop) (hinv : ∀ i m σ, I i m σ → inv σ) (items : List V) {Q : Fl → bb → ah → Prop}
  (step : ∀ i v m σ Q', items[i]? = some v → I i m σ → (∀ m' σ', I (i + 1) m' σ' → Q' .next m' σ') → (∀ m' σ', I (i + 1) m' σ' → Q' .cont m' σ') → (∀ u m' σ', R u m' σ' → Q' (.ret u) m' σ') → ∃ m', dJ g v m = some m' ∧ T m' σ Q')
  (done : ∀ m σ, I items.length m σ → Q .next m σ) (ret : ∀ u m σ, R u m σ → Q (.ret u) m σ) : ∀ (m : bb) (σ : ah), I 0 m σ → fh g inv T items m σ Q := by
 have key : ∀ (n : Nat) (i : Nat) (m : bb) (σ : ah), n = items.length - i → i ≤ items.length → I i m σ → fh g inv T (items.drop i) m σ Q := by
  intro n
  induction n with
  | zero =>
   intro i m σ hn hi h
   have : i = items.length := by exact Nat.le_antisymm (bw fun hg => lN [i, (items.length)] 0x10a309481 rfl hi hg) (bw fun hg => lN [(items.length - i), i, (items.length)] 0x628c25200c100481 rfl (Nat.le_of_eq (Eq.symm hn)) (a9 (items.length) (i)) hg)
   subst this
   rw [List.drop_length]
   exact ⟨hinv _ _ _ h, done m σ h⟩
  | succ n ih =>
   intro i m σ hn hi h
   have hlt : i < items.length := by exact jB fun hg => lN [n, (items.length - i), i, (items.length)] 0x31c273140129061 rfl (Nat.le_of_eq hn) (bj (bw fun hg => lN [i, (items.length)] 0x10a309481 rfl hi hg)) hg
   rw [List.drop_eq_getElem_cons hlt]
   simp only [fh]
   refine ⟨hinv _ _ _ h, step i _ m σ _ (List.getElem?_eq_getElem hlt) h (fun m' σ' h' => ih (i + 1) m' σ' (by exact Nat.le_antisymm (bw fun hg => lN [n, (items.length - i), i, (items.length), (items.length - (i + 1))] 0x11030986801c273140129061 rfl (Nat.le_of_eq hn) (bj (bw fun hg => lN [i, (items.length)] 0x2146129061 rfl hlt hg)) (a9 (items.length) (i + 1)) hg) (bw fun hg => lN [n, (items.length - i), i, (items.length), (items.length - (i + 1))] 0x208309cc340026280e120ca1 rfl (Nat.le_of_eq (Eq.symm hn)) (a9 (items.length) (i)) (bj (bw fun hg => lN [i, (items.length)] 0x41946129061 rfl hlt hg)) hg)) (by exact hlt) h') (fun m' σ' h' => ih (i + 1) m' σ' (by exact Nat.le_antisymm (bw fun hg => lN [n, (items.length - i), i, (items.length), (items.length - (i + 1))] 0x11030986801c273140129061 rfl (Nat.le_of_eq hn) (bj (bw fun hg => lN [i, (items.length)] 0x2146129061 rfl hlt hg)) (a9 (items.length) (i + 1)) hg) (bw fun hg => lN [n, (items.length - i), i, (items.length), (items.length - (i + 1))] 0x208309cc340026280e120ca1 rfl (Nat.le_of_eq (Eq.symm hn)) (a9 (items.length) (i)) (bj (bw fun hg => lN [i, (items.length)] 0x41946129061 rfl hlt hg)) hg)) (by exact hlt) h') fun u m' σ' h' => ret u m' σ' h'⟩
 intro m σ h
 have := key items.length 0 m σ (by exact rfl) (by exact Nat.zero_le _) h
 simpa using this
@[simp] theorem xI (m : bb) (x y : String) (v : V) : put m x v y = bif y == x then some v else m y := rfl
@[simp low] theorem wI {α : Type} (x y : String) (a b : α) : (bif y == x then a else b) = if y = x then a else b := by
 by_cases h : y = x
 ·rw [if_pos h, h, beq_self_eq_true]; rfl
 ·rw [if_neg h, beq_false_of_ne h]; rfl
@[simp] theorem wZ (fv : List String) (m : bb) (x : String) : only fv m x = if x ∈ fv then m x else Option.none := rfl
theorem jC {ws : List Value} (h : ws.length = 1) : ∃ a, ws = [a] := List.length_eq_one_iff.mp h
theorem uC {n : Nat} {ws : List Value} (h : ws.length = n + 1) : ∃ a r, ws = a :: r ∧ r.length = n := by
 cases ws with
 | nil => cases h
 | cons a r => exact ⟨a, r, rfl, Nat.succ.inj h⟩
theorem iu {ws : List Value} (h : ws.length = 2) : ∃ a b, ws = [a, b] := by
 obtain ⟨a, r, rfl, g⟩ := uC h
 obtain ⟨b, rfl⟩ := jC g
 exact ⟨a, b, rfl⟩
theorem ir {ws : List Value} (h : ws.length = 3) : ∃ a b c, ws = [a, b, c] := by
 obtain ⟨a, r, rfl, g⟩ := uC h
 obtain ⟨b, c, rfl⟩ := iu g
 exact ⟨a, b, c, rfl⟩
theorem uD {ws : List Value} (h : ws.length = 4) : ∃ a b c d, ws = [a, b, c, d] := by
 obtain ⟨a, r, rfl, g⟩ := uC h
 obtain ⟨b, c, d, rfl⟩ := ir g
 exact ⟨a, b, c, d, rfl⟩
theorem dg {a : Int} {n i : Nat} {v : V} (h : (ca a n)[i]? = some v) : i < n ∧ v = .int (a + i) := by
 unfold ca at h
 rw [List.getElem?_map] at h
 obtain ⟨j, hj, rfl⟩ := Option.map_eq_some_iff.mp h
 obtain ⟨hlt, hji⟩ := List.getElem?_eq_some_iff.mp hj
 simp at hji hlt
 subst hji
 exact ⟨hlt, rfl⟩
theorem cL (a : Int) (n : Nat) : (ca a n).length = n := by simp [ca]
noncomputable def cell (ns : List Int) (k : Int) : Int := ns.getD k.toNat 0
noncomputable def nI (U : ST) (Q : Fl → bb → ah → Prop) : Fl → bb → ah → Prop := fun f m σ => match f with
 | .next => U m σ Q
 | f => Q f m σ
theorem aj (T U : ST) (m : bb) (σ : ah) (Q : Fl → bb → ah → Prop) : aq T U m σ Q = T m σ (nI U Q) := by
 unfold aq nI; rfl
@[simp] theorem aQ (U : ST) (Q : Fl → bb → ah → Prop) (m : bb) (σ : ah) : nI U Q .next m σ = U m σ Q := rfl
@[simp] theorem vr (U : ST) (Q : Fl → bb → ah → Prop) (m : bb) (σ : ah) : nI U Q .cont m σ = Q .cont m σ := rfl
@[simp] theorem we (U : ST) (Q : Fl → bb → ah → Prop) (m : bb) (σ : ah) : nI U Q .brk m σ = Q .brk m σ := rfl
@[simp] theorem wd (U : ST) (Q : Fl → bb → ah → Prop) (v : V) (m : bb) (σ : ah) : nI U Q (.ret v) m σ = Q (.ret v) m σ := rfl
noncomputable def fin (Q : V → ah → Prop) : Fl → bb → ah → Prop := fun f _ σ' => match f with | .ret v => Q v σ' | .next => Q .none σ' | _ => False
@[simp] theorem xi (Q : V → ah → Prop) (v : V) (m : bb) (σ : ah) : fin Q (.ret v) m σ = Q v σ := rfl
@[simp] theorem wq (Q : V → ah → Prop) (m : bb) (σ : ah) : fin Q .next m σ = Q .none σ := rfl
section
variable {m : bb} {σ : ah} {Q : V → ah → Prop} {R : Fl → bb → ah → Prop} {B : Bool → ah → Prop} {K : List V → ah → Prop} {J : List V → (ah → Prop) → ah → Prop} {O : Option Int → ah → Prop} {ns : List Int}
@[simp] theorem ox {x : String} {T : ET} : bf x T m σ R = T m σ fun v σ' => R .next (put m x v) σ' := rfl
@[simp] theorem wU {T : ET} : bA T m σ R = T m σ fun v σ' => R (.ret v) m σ' := rfl
@[simp] theorem xH {b : BT} {T U : ST} : cZ b T U m σ R = b m σ fun b σ' => if b then T m σ' R else U m σ' R := rfl
@[simp] theorem wV : au m σ R = R .next m σ := rfl
@[simp] theorem vW {T : ET} : bD T m σ R = T m σ fun _ σ' => R .next m σ' := rfl
@[simp] theorem wW {g : Tgt} {I : IT} {T : ST} : bX g I T m σ R = I m σ fun items inv σ' => fh g inv T items m σ' R := rfl
@[simp] theorem tJ {op : V → V → V → ah → (ah → Prop) → Prop} {T To Ti : ET} : bp op T To Ti m σ R = T m σ fun v σ₁ => To m σ₁ fun o σ₂ => Ti m σ₂ fun i σ₃ => op o i v σ₃ fun σ₄ => R .next m σ₄ := rfl
@[simp] theorem ml {x : String} : ae x m σ Q = atK (m x) fun v => Q v σ := rfl
@[simp] theorem wN {α : Type} {v : α} {F : α → Prop} : atK (some v) F = F v := rfl
@[simp] theorem xj {v : V} : aw v m σ Q = Q v σ := rfl
@[simp] theorem xu {op : O2} {T U : ET} : av op T U m σ Q = T m σ fun a σ₁ => U m σ₁ fun b σ₂ => op a b σ₂ Q := rfl
@[simp] theorem xZ {op : O1} {T : ET} : wz op T m σ Q = T m σ fun a σ₁ => op a σ₁ Q := rfl
@[simp] theorem wC {spec : bK} {L : LT} : aE spec L m σ Q = L m σ fun vs σ' => spec vs σ' Q := rfl
@[simp] theorem mq {ty : V → ah → Prop} {op : bK} {T : ET} {L : LT} : bg ty op T L m σ Q = T m σ fun o σ₁ => ty o σ₁ ∧ L m σ₁ fun vs σ₂ => op (o :: vs) σ₂ Q := rfl
@[simp] theorem oG : ar m σ K = K [] σ := rfl
@[simp] theorem lU {T : ET} {L : LT} : ai T L m σ K = T m σ fun v σ₁ => L m σ₁ fun vs σ₂ => K (v :: vs) σ₂ := rfl
@[simp] theorem yn : uI [] = true := rfl
@[simp] theorem yl {x : Str} {r : List V} : uI (.str x :: r) = true := rfl
@[simp] theorem ym {x : Int} {r : List V} : uI (.int x :: r) = true := rfl
@[simp] theorem xm {L : LT} : d5 L m σ Q = L m σ fun vs σ₁ => (vs.length ≤ 1000 ∧ uI vs = true) ∧ Q (.tup vs) σ₁ := rfl
@[simp] theorem wA {L : LT} : b4 L m σ Q = L m σ fun vs σ₁ => vs.length ≤ 1000 ∧ cR vs σ₁ Q := rfl
@[simp] theorem wQ {T : BT} : ip T m σ B = T m σ fun b σ' => B (!b) σ' := rfl
@[simp] theorem wR {T U : BT} : fg T U m σ B = T m σ fun b σ' => if b then U m σ' B else B false σ' := rfl
@[simp] theorem xC {T U : BT} : nd T U m σ B = T m σ fun b σ' => if b then B true σ' else U m σ' B := rfl
@[simp] theorem yf : tT m σ B = B true σ := rfl
@[simp] theorem yg : tF m σ B = B false σ := rfl
@[simp] theorem wB {fv : List String} {g : Tgt} {I : IT} {b : BT} {T : ET} : cT fv g I b T m σ Q = I m σ fun items inv σ' => bU g inv b T (only fv m) items [] σ' fun ys σ'' => cR ys σ'' Q := rfl
@[simp] theorem xV {T : ET} : eY ns T m σ J = T m σ fun v σ' => gJ ns v σ' J := rfl
@[simp] theorem vy {L : LT} : dB L m σ J = L m σ fun vs σ' => iw vs σ' J := rfl
@[simp] theorem xq {T : ET} {L U : bb → ah → (Option Int → ah → Prop) → Prop} : sR ns T L U m σ Q = T m σ fun v σ₁ => L m σ₁ fun lo σ₂ => U m σ₂ fun hi σ₃ => qQ ns lo hi v σ₃ Q := rfl
@[simp] theorem v7 : qJ m σ O = O Option.none σ := rfl
@[simp] theorem v6 {T : ET} : lO T m σ O = T m σ fun v σ' => ∃ i, v = .int i ∧ O (some i) σ' := rfl
@[simp] theorem uW {x : String} {v : V} : dJ (.name x) v m = some (put m x v) := rfl
@[simp] theorem uX {x : String} {xs : List String} {v : V} {vs : List V} : aC (x :: xs) (v :: vs) m = aC xs vs (put m x v) := rfl
@[simp] theorem vD : aC [] [] m = m := rfl
@[simp] theorem w4 {x : String} : aH x = Option.none := rfl
end
@[simp] theorem dZ (c : Bool) (F : Bool → Prop) : isB (.bool c) F = F c := rfl
@[simp] theorem vK (T : ET) (m : bb) (σ : ah) (Q : Bool → ah → Prop) : aL T m σ Q = T m σ (fun v σ' => isB v fun b => Q b σ') := rfl
@[simp] theorem xv (T U : ET) (m : bb) (σ : ah) (Q : V → ah → Prop) : uV T U m σ Q = T m σ (fun v σ' => isB v fun b => if b then U m σ' Q else Q (.bool false) σ') := rfl
@[simp] theorem vJ (o1 o2 : O2) (T U W : ET) (m : bb) (σ : ah) (Q : Bool → ah → Prop) : om o1 o2 T U W m σ Q = T m σ (fun a σ₁ => U m σ₁ fun b σ₂ => o1 a b σ₂ fun v σ₃ => isB v fun x => if x then W m σ₃ fun c σ₄ => o2 b c σ₄ fun u σ₅ => isB u fun y => Q y σ₅ else Q false σ₃) := rfl
section
variable {σ : ah} {Q : V → ah → Prop} {ns : List Int}
@[simp] theorem add_int {x y : Int} : cw (.int x) (.int y) σ Q = Q (.int (x + y)) σ := rfl
@[simp] theorem oQ {x y : Str} : cw (.str x) (.str y) σ Q = (x.length + y.length ≤ 16777216 ∧ Q (.str (x ++ y)) σ) := rfl
@[simp] theorem sub_int {x y : Int} : oz (.int x) (.int y) σ Q = Q (.int (x - y)) σ := rfl
@[simp] theorem mul_int {x y : Int} : lP (.int x) (.int y) σ Q = ((il x ∨ il y) ∧ Q (.int (x * y)) σ) := rfl
@[simp] theorem f8 {x y : Int} : bP (.int x) (.int y) σ Q = (0 < y ∧ Q (.int (x % y)) σ) := rfl
@[simp] theorem xA {x y : Int} : f7 (.int x) (.int y) σ Q = ((0 < y ∧ y < 1073741824) ∧ Q (.int (x / y)) σ) := rfl
@[simp] theorem lt_int {x y : Int} : lQ (.int x) (.int y) σ Q = Q (.bool (decide (x < y))) σ := rfl
@[simp] theorem le_int {x y : Int} : qM (.int x) (.int y) σ Q = Q (.bool (decide (x ≤ y))) σ := rfl
@[simp] theorem gt_int {x y : Int} : sz (.int x) (.int y) σ Q = Q (.bool (decide (y < x))) σ := rfl
@[simp] theorem neg_int {x : Int} : oA (.int x) σ Q = Q (.int (-x)) σ := rfl
@[simp] theorem eq_int {x y : Int} : bF (.int x) (.int y) σ Q = Q (.bool (decide (x = y))) σ := rfl
@[simp] theorem eq_str {x y : Str} : bF (.str x) (.str y) σ Q = Q (.bool (decide (x = y))) σ := rfl
@[simp] theorem eq_bool {x y : Bool} : bF (.bool x) (.bool y) σ Q = Q (.bool (x == y)) σ := rfl
@[simp] theorem yr : bF .none .none σ Q = Q (.bool true) σ := rfl
@[simp] theorem yq {y : Str} : bF .none (.str y) σ Q = Q (.bool false) σ := rfl
@[simp] theorem yo {y : Str} : bF (.str y) .none σ Q = Q (.bool false) σ := rfl
@[simp] theorem ne_int {x y : Int} : f6 (.int x) (.int y) σ Q = Q (.bool (!decide (x = y))) σ := rfl
@[simp] theorem ne_str {x y : Str} : f6 (.str x) (.str y) σ Q = Q (.bool (!decide (x = y))) σ := rfl
@[simp] theorem ne_bool {x y : Bool} : f6 (.bool x) (.bool y) σ Q = Q (.bool (!(x == y))) σ := rfl
@[simp] theorem yk : f6 .none .none σ Q = Q (.bool false) σ := rfl
@[simp] theorem yj {y : Str} : f6 .none (.str y) σ Q = Q (.bool true) σ := rfl
@[simp] theorem yi {y : Str} : f6 (.str y) .none σ Q = Q (.bool true) σ := rfl
@[simp] theorem vq {x y : Str} : iW (.str y) (.str x) σ Q = Q (.bool (!Txt.contains x y)) σ := rfl
@[simp] theorem len_str {x : Str} : bS ns [.str x] σ Q = (x.length ≤ 16777216 ∧ Q (.int x.length) σ) := rfl
@[simp] theorem uB : bS ns [.script] σ Q = Q (.int ns.length) σ := rfl
@[simp] theorem w7 {vs : List V} : bS ns [.tup vs] σ Q = (vs.length ≤ 16777216 ∧ Q (.int vs.length) σ) := rfl
theorem bT {a : Addr} {xs : List V} (h : σ a = some (.list xs)) : bS ns [.ref a] σ Q = Q (.int xs.length) σ := by show nH σ Q (σ a) = _; rw [h]; rfl
@[simp] theorem w5 {x y : Int} : ot [.int x, .int y] σ Q = Q (.int (min x y)) σ := rfl
@[simp] theorem w6 {x y : Int} : ov [.int x, .int y] σ Q = Q (.int (max x y)) σ := rfl
@[simp] theorem str_int {i : Int} : oq [.int i] σ Q = (i.natAbs.log2 < 1920 ∧ Q (.str (Str.ofString (toString i))) σ) := rfl
@[simp] theorem t5 {x y : Str} : f4 [.str x, .str y] σ Q = Q (.bool (Txt.startswith x y)) σ := rfl
@[simp] theorem vn {x y : Str} : f5 [.str x, .str y] σ Q = ((y.length = 1 ∧ x.length ≤ 1048576) ∧ cR ((Txt.split x y).map .str) σ Q) := rfl
theorem pR {x : Str} {a : Addr} {ys : List Str} (h : σ a = some (.list (ys.map .str))) (hl : (ys.map (·.length)).sum + ys.length * x.length ≤ 16777216) (q : Q (.str (Str.join x ys)) σ) : kB [.str x, .ref a] σ Q := ⟨ys, h, hl, q⟩
theorem rp {a : Addr} {xs : List V} (h : σ a = some (.list xs)) : b9 [.ref a, .ty "list"] σ Q = Q (.bool true) σ := by
 simp [b9, onVT, on2, on1, isT, Mine.tQ, h]
@[simp] theorem wh {b : Bool} : b9 [.bool b, .ty "bool"] σ Q = Q (.bool true) σ := by simp [b9, onVT, on2, on1, isT, Mine.tQ]
@[simp] theorem w9 {b : Str} : b9 [.str b, .ty "str"] σ Q = Q (.bool true) σ := by simp [b9, onVT, on2, on1, isT, Mine.tQ]
@[simp] theorem xe {b : Int} : b9 [.int b, .ty "int"] σ Q = Q (.bool true) σ := by simp [b9, onVT, on2, on1, isT, Mine.tQ]
@[simp] theorem w8 {vs : List V} : b9 [.tup vs, .ty "tuple"] σ Q = Q (.bool true) σ := by simp [b9, onVT, on2, on1, isT, Mine.tQ]
@[simp] theorem vm {x : Str} : fX (.str x) σ = True := rfl
theorem ck {a : Addr} {xs : List V} (h : σ a = some (.list xs)) : b8 (.ref a) σ = True := by simp [b8, h]
@[simp] theorem wY {n : Int} {R : List V → (ah → Prop) → ah → Prop} : iw [.int n] σ R = ((-(2 ^ 62) ≤ n ∧ n < 2 ^ 62) ∧ R (ca 0 n.toNat) (fun _ => True) σ) := rfl
@[simp] theorem wX {a b : Int} {R : List V → (ah → Prop) → ah → Prop} : iw [.int a, .int b] σ R = ((-(2 ^ 62) ≤ a ∧ a < 2 ^ 62 ∧ -(2 ^ 62) ≤ b ∧ b < 2 ^ 62) ∧ R (ca a (b - a).toNat) (fun _ => True) σ) := rfl
@[simp] theorem wf {x : Str} {R : List V → (ah → Prop) → ah → Prop} : gJ ns (.str x) σ R = R (fj x) (fun _ => True) σ := rfl
theorem a7 {a : Addr} {xs : List V} (h : σ a = some (.list xs)) {R : List V → (ah → Prop) → ah → Prop} : gJ ns (.ref a) σ R = R xs (fun σ => σ a = some (.list xs)) σ := by show iz a σ R (σ a) = _; rw [h]; rfl
theorem kK {i : Int} {n : Nat} (h0 : 0 ≤ i) (h : i.toNat < n) : l6 i n = some i.toNat := by unfold l6; rw [if_pos h0, if_pos (nE h0 h)]
theorem bo {a : Addr} {xs : List V} {i : Int} {v : V} (h : σ a = some (.list xs)) (h0 : 0 ≤ i) (hv : xs[i.toNat]? = some v) (q : Q v σ) : aG ns (.ref a) (.int i) σ Q := by
 refine ⟨xs, i.toNat, v, h, ?_, hv, q⟩
 exact kK h0 (List.getElem?_eq_some_iff.mp hv).1
theorem rm {x : Str} {i : Int} {c : Nat} (hz : x.length < 16777217) (h0 : 0 ≤ i) (hv : x.cps.toList[i.toNat]? = some c) (q : Q (.str ⟨#[c]⟩) σ) : aG ns (.str x) (.int i) σ Q := by
 refine ⟨hz, i.toNat, c, ?_, hv, q⟩
 exact kK h0 (List.getElem?_eq_some_iff.mp hv).1
theorem po {a : Addr} {xs : List V} {i : Int} {v : V} {R : ah → Prop} (h : σ a = some (.list xs)) (h0 : 0 ≤ i) (hi : i.toNat < xs.length) (q : R (aY σ a (.list (xs.set i.toNat v)))) : qE (.ref a) (.int i) v σ R := by
 exact ⟨xs, i.toNat, h, kK h0 hi, q⟩
theorem rL {a : Addr} {xs : List V} {lo hi : Option Int} (h : σ a = some (.list xs)) (q : cR (bv xs lo hi) σ Q) : qQ ns lo hi (.ref a) σ Q := ⟨xs, h, q⟩
theorem b5 {a : Addr} {xs : List V} {v : V} (h : σ a = some (.list xs)) (hz : xs.length < 16777216) (q : Q .none (aY σ a (.list (xs ++ [v])))) : bu [.ref a, v] σ Q := ⟨xs, h, hz, q⟩
theorem p7 {k : Int} (h0 : 0 ≤ k) (h : k < ns.length) (q : Q (.int (cell ns k)) σ) : aG ns .script (.int k) σ Q := by
 refine ⟨k.toNat, ns.getD k.toNat 0, h0, ?_, ?_, q⟩
 ·unfold l6; rw [if_pos h0, if_pos h]
 ·rw [List.getD_eq_getElem?_getD]
  cases e : ns[k.toNat]? with
  | none => rw [List.getElem?_eq_none_iff] at e; exact absurd (i0 h0 h) (Nat.not_lt.mpr e)
  | some n => rfl
theorem rP {k : Int} (h0 : 0 ≤ k) (h : ¬ k < ns.length) : cell ns k = 0 := by
 unfold cell
 rw [List.getD_eq_getElem?_getD, List.getElem?_eq_none (bw fun g => h (nE h0 g))]; rfl
theorem jd {n : Int} {k : Nat} (h0 : 0 ≤ n) : clipAt k n = min n.toNat k := by
 unfold clipAt
 rw [if_neg (Int.not_lt.mpr h0)]
 obtain ⟨m, rfl⟩ := Int.eq_ofNat_of_zero_le h0
 by_cases h : m ≤ k
 ·rw [Int.min_eq_left (Int.ofNat_le.mpr h), Int.max_eq_right (Int.natCast_nonneg _), Int.toNat_natCast, Nat.min_eq_left h]
 ·have h' : k ≤ m := Nat.le_of_not_le h
  rw [Int.min_eq_right (Int.ofNat_le.mpr h'), Int.max_eq_right (Int.natCast_nonneg _), Int.toNat_natCast, Int.toNat_natCast, Nat.min_eq_right h']
theorem rK {α : Type} (l : List α) {n : Int} (h0 : 0 ≤ n) : bv l Option.none (some n) = l.take n.toNat := by
 unfold bv je
 simp only [Option.elim]
 rw [jd h0, List.drop_zero, Nat.sub_zero, ← List.take_eq_take_min]
end
end Mine
end
noncomputable section
namespace Mine
open PySem PySem.W PyProof.Rows PySem.Calls
abbrev cl (x : Str) : List Nat := x.cps.toList
theorem fL {x y : Str} (h : cl x = cl y) : x = y := by
 cases x; cases y; simp [cl] at h; rw [h]
theorem cP (x y : Str) : cl (x ++ y) = cl x ++ cl y := by
 show (x.cps ++ y.cps).toList = _; simp
theorem jf (x : Str) : x.length = (cl x).length := by simp [Str.length]
noncomputable def jn (c : Nat) : List (List Nat) → List Nat
 | [] => []
 | [x] => x
 | x :: y :: r => x ++ c :: jn c (y :: r)
theorem iC (c : Nat) : ∀ xs : List Str, cl (Str.join ⟨#[c]⟩ xs) = jn c (xs.map cl)
 | [] => rfl
 | [x] => rfl
 | x :: y :: r => by
  have ih := iC c (y :: r)
  simp only [List.map_cons] at ih
  simp only [List.map_cons, jn, Str.join, cP, ih]
  rw [List.append_assoc]; rfl
noncomputable def vj (c : Nat) (xs : List (List Nat)) : Prop := ∀ x ∈ xs, c ∉ x
theorem rM {c : Nat} : ∀ {x y a b : List Nat}, c ∉ x → c ∉ y → x ++ c :: a = y ++ c :: b → x = y ∧ a = b
 | [], [], a, b, _, _, h => by simp at h; exact ⟨rfl, h⟩
 | [], d :: y, a, b, _, hy, h => by simp at h; exact absurd (h.1 ▸ List.mem_cons_self ..) hy
 | d :: x, [], a, b, hx, _, h => by simp at h; exact absurd (h.1 ▸ List.mem_cons_self ..) hx
 | d :: x, e :: y, a, b, hx, hy, h => by
  simp at h hx hy
  obtain ⟨rfl, h⟩ := h
  obtain ⟨rfl, rfl⟩ := rM hx.2 hy.2 h
  exact ⟨rfl, rfl⟩
theorem rl {c : Nat} : ∀ {xs ys : List (List Nat)}, vj c xs → vj c ys → xs ≠ [] → ys ≠ [] → jn c xs = jn c ys → xs = ys
 | [], _, _, _, h, _, _ => absurd rfl h
 | _, [], _, _, _, h, _ => absurd rfl h
 | [x], [y], _, _, _, _, e => by simp [jn] at e; rw [e]
 | [x], y :: z :: r, fx, _, _, _, e => by
  simp only [jn] at e
  exact absurd (by rw [e]; simp) (fx x (.head _))
 | x :: z :: r, [y], _, fy, _, _, e => by
  simp only [jn] at e
  exact absurd (by rw [← e]; simp) (fy y (.head _))
 | x :: z :: r, y :: u :: q, fx, fy, _, _, e => by
  simp only [jn] at e
  obtain ⟨rfl, e'⟩ := rM (fx x (.head _)) (fy y (.head _)) e
  rw [rl (fun a h => fx a (.tail _ h)) (fun a h => fy a (.tail _ h)) (by simp) (by simp) e']
noncomputable def Fr (x : Str) : Prop := 47 ∉ cl x
theorem lG : Str.ofString "/" = ⟨#[47]⟩ := by decide +kernel
theorem l9 {xs : List Str} (h : ∀ x ∈ xs, Fr x) : vj 47 (xs.map cl) := fun a ha => by
 obtain ⟨x, hx, rfl⟩ := List.mem_map.mp ha; exact h x hx
theorem i4 : ∀ {xs ys : List Str}, xs.map cl = ys.map cl → xs = ys
 | [], [], _ => rfl
 | [], _ :: _, h => by simp at h
 | _ :: _, [], h => by simp at h
 | x :: xs, y :: ys, h => by simp only [List.map_cons, List.cons.injEq] at h; rw [fL h.1, i4 h.2]
theorem rk {xs ys : List Str} (fx : ∀ x ∈ xs, Fr x) (fy : ∀ y ∈ ys, Fr y) (nx : xs ≠ []) (ny : ys ≠ []) (h : Str.join (Str.ofString "/") xs = Str.join (Str.ofString "/") ys) : xs = ys := by
 refine i4 (rl (l9 fx) (l9 fy) (by simpa using nx) (by simpa using ny) ?_)
 rw [← iC, ← iC, ← lG, h]
theorem iM {xs : List Str} (fx : ∀ x ∈ xs, Fr x) (nx : xs ≠ []) : Txt.split (Str.join (Str.ofString "/") xs) (Str.ofString "/") = xs := by
 refine rk ?_ fx ?_ nx (StrLaws.join_split _ _)
 ·intro y hy
  rw [lG] at hy
  exact StrLaws.split_free _ 47 y hy
 ·intro e
  have := PyProof.Rows.split_pos (Str.join (Str.ofString "/") xs) (Str.ofString "/")
  rw [e] at this; simp at this
theorem nh (x y : Str) : Txt.startswith x y = true ↔ cl y <+: cl x := by
 unfold Txt.startswith
 rw [StrLaws.subAt_eq, jf, jf, List.prefix_iff_eq_take]
 simp
 constructor
 ·rintro ⟨_, h⟩; exact h.symm
 ·intro h; refine ⟨?_, h.symm⟩
  have := congrArg List.length h
  simp at this
  omega
theorem dQ : (Str.ofString "/").length = 1 := by rw [lG]; rfl
end Mine
end
noncomputable section
namespace Mine
open PySem PySem.W PyProof.Rows PySem.Calls
noncomputable def GStr (C : Cx) (x : String) (v : Str) : Prop := ∃ t, C.mg (Str.ofString x) = some (.str v t)
noncomputable def GInt (C : Cx) (x : String) (v : Int) : Prop := ∃ t, C.mg (Str.ofString x) = some (.int v t)
section
variable {C : Cx} {p : Program} {sc : Scope} {k : Nat}
theorem tx (O : C.Ok) {x : String} {pos : Pos} {v : Str} (h : sc.names.lookup (Str.ofString x) = some .globalImplicit) (hg : GStr C x v) (hd : (Str.ofString x == ("__debug__" : Str)) = false) : HE C sc k (.Name (Str.ofString x) pos) (aw (.str v)) := by
 obtain ⟨t, e⟩ := hg
 exact o6 O h e (fun _ => .str v t) hd
theorem o7 (O : C.Ok) {x : String} {pos : Pos} {v : Int} (h : sc.names.lookup (Str.ofString x) = some .globalImplicit) (hg : GInt C x v) (hd : (Str.ofString x == ("__debug__" : Str)) = false) : HE C sc k (.Name (Str.ofString x) pos) (aw (.int v)) := by
 obtain ⟨t, e⟩ := hg
 exact o6 O h e (fun _ => .int v t) hd
theorem GStr.of {loose : List Str} {mean : ExcName → Option Value} (T : Top p loose mean C.mg C.mb C.hB) {x : String} {v : Str} (h : valOf p (Str.ofString x) = some (.str v)) : GStr C x v := by
 obtain ⟨w, h1, h2⟩ := T.const _ _ h
 cases h2 C.hB with
 | str _ t => exact ⟨t, h1⟩
theorem GInt.of {loose : List Str} {mean : ExcName → Option Value} (T : Top p loose mean C.mg C.mb C.hB) {x : String} {v : Int} (h : valOf p (Str.ofString x) = some (.int v)) : GInt C x v := by
 obtain ⟨w, h1, h2⟩ := T.const _ _ h
 cases h2 C.hB with
 | int _ t => exact ⟨t, h1⟩
end
end Mine
end
noncomputable section
namespace Mine
open PySem PySem.W PyProof.Rows PySem.Calls
noncomputable def bG {K : Type} [DecidableEq K] (kvs : List (K × V)) (k : K) (v : V) : List (K × V) :=
 if kvs.any (fun kv => kv.1 = k) then kvs.map (fun kv => if kv.1 = k then (kv.1, v) else kv) else kvs ++ [(k, v)]
noncomputable def cA {K : Type} [DecidableEq K] (kvs : List (K × V)) (k : K) : Option V := (kvs.find? fun kv => kv.1 = k).map (·.2)
noncomputable def io {K : Type} [DecidableEq K] (kvs : List (K × V)) (k : K) : List (K × V) := kvs.filter fun kv => decide (kv.1 ≠ k)
section
variable {aS : Addr} {h : Heap}
variable {K : Type} [DecidableEq K] {a a' : List (K × V)} {b b' : List (K × Value)} {k : K}
theorem PRel.any (k : K) (x : PRel aS h a b) : (a.any fun kv => kv.1 = k) = (b.any fun kv => kv.1 = k) :=
 x.ind (P := fun a b => (a.any fun kv => kv.1 = k) = (b.any fun kv => kv.1 = k)) rfl fun _ _ _ _ _ _ _ ih => by simp only [List.any_cons, ih]
theorem PRel.append (x : PRel aS h a b) (y : PRel aS h a' b') : PRel aS h (a ++ a') (b ++ b') :=
 x.ind (P := fun a b => PRel aS h (a ++ a') (b ++ b')) y fun _ _ _ _ _ v _ ih => by rw [List.cons_append, List.cons_append]; exact ⟨rfl, v, ih⟩
theorem PRel.mapSet {v : V} {w : Value} (hv : VRel aS h v w) (x : PRel aS h a b) : PRel aS h (a.map fun kv => if kv.1 = k then (kv.1, v) else kv) (b.map fun kv => if kv.1 = k then (kv.1, w) else kv) :=
 x.ind (P := fun a b => PRel aS h (a.map fun kv => if kv.1 = k then (kv.1, v) else kv) (b.map fun kv => if kv.1 = k then (kv.1, w) else kv)) trivial fun x _ _ _ _ q _ ih => by
  rw [List.map_cons, List.map_cons]
  by_cases c : x = k
  ·rw [if_pos c, if_pos c]; exact ⟨rfl, hv, ih⟩
  ·rw [if_neg c, if_neg c]; exact ⟨rfl, q, ih⟩
theorem PRel.stored {v : V} {w : Value} (x : PRel aS h a b) (hv : VRel aS h v w) : PRel aS h (bG a k v) (PySem.stored b k w) := by
 unfold bG PySem.stored
 rw [x.any k]
 split
 ·exact x.mapSet hv
 ·exact x.append ⟨rfl, hv, trivial⟩
theorem PRel.find (x : PRel aS h a b) : ∀ {v : V}, cA a k = some v → ∃ w, valueAt b k = some w ∧ VRel aS h v w :=
 x.ind (P := fun a b => ∀ {v : V}, cA a k = some v → ∃ w, valueAt b k = some w ∧ VRel aS h v w) (fun e => by cases e) fun x _ z _ _ q _ ih v hv => by
  unfold cA at hv
  unfold valueAt
  by_cases c : x = k
  ·rw [List.find?_cons_of_pos (by simpa using c)] at hv
   rw [List.find?_cons_of_pos (by simpa using c)]
   cases hv; exact ⟨z, rfl, q⟩
  ·rw [List.find?_cons_of_neg (by simpa using c)] at hv
   rw [List.find?_cons_of_neg (by simpa using c)]
   exact ih hv
theorem PRel.none (x : PRel aS h a b) : (cA a k).isSome = (valueAt b k).isSome :=
 x.ind (P := fun a b => (cA a k).isSome = (valueAt b k).isSome) rfl fun x _ _ _ _ _ _ ih => by
  unfold cA valueAt
  by_cases c : x = k
  ·rw [List.find?_cons_of_pos (by simpa using c), List.find?_cons_of_pos (by simpa using c)]; rfl
  ·rw [List.find?_cons_of_neg (by simpa using c), List.find?_cons_of_neg (by simpa using c)]
   exact ih
theorem PRel.without (x : PRel aS h a b) : PRel aS h (io a k) (PySem.without b k) :=
 x.ind (P := fun a b => PRel aS h (io a k) (PySem.without b k)) trivial fun x _ _ _ _ q _ ih => by
  unfold io PySem.without at *
  by_cases c : x = k
  ·rw [List.filter_cons_of_neg (by simpa using c), List.filter_cons_of_neg (by simpa using c)]; exact ih
  ·rw [List.filter_cons_of_pos (by simpa using c), List.filter_cons_of_pos (by simpa using c)]; exact ⟨rfl, q, ih⟩
end
section
variable {C : Cx} {p : Program} {sc : Scope} {k : Nat}
theorem gH (x : Str) (t : Tok) : (strKind C.prog C.w).is x (.str x t) = true := by
 show Value.isStrOf x (.str x t) = true
 simp [Value.isStrOf]
noncomputable def sG (kvs : List (Str × V)) (σ : ah) (Q : V → ah → Prop) : Prop := ∀ a ep, σ a = Option.none → Q (.ref a) (aY σ a (.dict kvs ep))
noncomputable def fJ : ET := fun _ σ Q => sG [] σ Q
theorem eQ {pos : Pos} : HE C sc k (.Dict [] [] pos) fJ := by
 refine ⟨?_⟩; intro env A s m σ Q P E en ao R F q hP
 have hn := bC s.heap
 obtain ⟨ep, hat⟩ := (Heap.DictOf.new (knd := strKind C.prog C.w) s.heap).dictAt
 refine wpAny_Dict_empty (hP (.ref s.heap.objs.size) (.ref s.heap.objs.size) (aY σ s.heap.objs.size (.dict [] ep)) _ (.ref _) ?_ .addPush (q _ ep (R.freshNone hn)))
 have := R.add (tk := s.toks) (a := s.heap.objs.size) (o := .dict [] ep) aV hn (h' := s.heap.push { cls := .type "dict", data := .dict #[] }) ⟨by simp, [], hat, trivial⟩
 exact this
noncomputable def iq : V → V → V → ah → (ah → Prop) → Prop := fun o i v σ Q => isR o fun a => isS i fun k => ∃ kvs ep, σ a = some (.dict kvs ep) ∧ kvs.length < 16777216 ∧ ∀ ep', Q (aY σ a (.dict (bG kvs k v) ep'))
theorem jT {h : Heap} {a : Addr} {kws : List (Str × Value)} {ep : Nat} (x : h.DictAt (strKind C.prog C.w) a kws ep) : ∀ o, h.get? a = some o → ¬ fU o := by
 intro o ho
 obtain ⟨o', es, ho', hc, hd, _⟩ := x
 rw [ho] at ho'; cases ho'
 simp [fU, hd]
theorem lA (kvs : List (Str × V)) (x : Str) (v : V) : (bG kvs x v).length ≤ kvs.length + 1 := by
 unfold bG; split <;> simp
theorem eU : o4 C k iq := by
 intro A s σ o i v wo wi w Q P E ao R vo vi vv q hP
 replace q := isR.elim q
 obtain ⟨a, rfl, q⟩ := q
 replace q := isS.elim q
 obtain ⟨x, rfl, q⟩ := q
 ·cases vo; cases vi
  obtain ⟨kvs, ep, hx, hz, q⟩ := q
  obtain ⟨_, kws, h1, h2⟩ := R.view _ _ hx
  have hl := h2.length
  refine wpAny_setItem_pairs (knd := strKind C.prog C.w) (gH x _) h1.dictOf (fun h' hd' hs' => ?_) (by rw [sizeLine_eq, ← hl]; omega)
  obtain ⟨ep', hat⟩ := hd'.dictAt
  have kt : a0 s.heap h' := fun b o eb ht => hs'.extBut b o (by rintro rfl; exact jT h1 o eb ht) eb
  have vl := lA kvs x v
  exact hP (aY σ a (.dict (bG kvs x v) ep')) _ (R.change (tk := s.toks + 1) hx hs' ⟨by omega, _, hat, (h2.stored vv).keep kt⟩) (.change hx hs') (q ep')
noncomputable def gT : O2 := fun i o σ Q => isS i fun x => isR o fun a => ∃ kvs ep, σ a = some (.dict kvs ep) ∧ Q (.bool (cA kvs x).isSome) σ
theorem kD (O : C.Ok) : fT C k (compareOp .In) gT := by
 intro A s σ a b wa wb Q P E ao R va vb q hP
 replace q := isS.elim q
 obtain ⟨x, rfl, q⟩ := q
 replace q := isR.elim q
 obtain ⟨a, rfl, q⟩ := q
 ·cases va; cases vb
  obtain ⟨kvs, ep, hx, q⟩ := q
  obtain ⟨_, kws, h1, h2⟩ := R.view _ _ hx
  refine wpAny_in_of (knd := strKind C.prog C.w) (gH x _) (O.noMods (R.apart a (by rw [hx]; simp))) h1.dictOf.mapOf ?_
  rw [← h2.none]
  exact hP _ _ σ _ (.bool _) (R.tok _) Step.refl q
noncomputable def dv : O2 := fun o i σ Q => isR o fun a => isS i fun x => ∃ kvs ep v, σ a = some (.dict kvs ep) ∧ cA kvs x = some v ∧ Q v σ
end
end Mine
end
noncomputable section
namespace Mine
open PySem PySem.W PyProof.Rows PySem.Calls
section
variable {C : Cx} {p : Program} {sc : Scope} {k : Nat}
theorem qW {slice : Expr} (hsl : f9 slice = false) : fT C k (fun o i => getitemInPython o >>= fun b => subscripted slice b o i) dv := by
 intro A s σ a b wa wb Q P E ao R va vb q hP
 replace q := isR.elim q
 obtain ⟨a, rfl, q⟩ := q
 replace q := isS.elim q
 obtain ⟨x, rfl, q⟩ := q
 ·cases va; cases vb
  obtain ⟨kvs, ep, v, hx, hv, q⟩ := q
  obtain ⟨_, kws, h1, h2⟩ := R.view _ _ hx
  obtain ⟨w, e1, e2⟩ := h2.find hv
  exact di hsl h1.dictOf.typeIs slot_dict_getitem.lookup (wpAny_getItem_of (knd := strKind C.prog C.w) (gH x _) h1.dictOf.mapOf e1 (hP _ _ σ _ e2 (R.tok _) Step.refl q))
theorem m6 {value slice : Expr} {pos : Pos} {T U : ET} (hv : HE C sc k value T) (hi : HE C sc k slice U) (hs : f9 slice = false) : HE C sc k (.Subscript value slice pos) (av dv T U) :=
 r0 hv hi (qW hs)
noncomputable def bz : V → ah → Prop
 | .ref a, σ => ∃ kvs ep, σ a = some (.dict kvs ep)
 | _, _ => False
theorem jI : s9 C "dict" bz := by
 intro o wo σ s R hv h
 cases hv <;> first | exact h.elim | skip
 obtain ⟨kvs, ep, hx⟩ := h
 obtain ⟨_, ws, h1, h2⟩ := R.view _ _ hx
 exact ⟨h1.dictOf.typeIs, h1.dictOf.mapOf.noDict⟩
theorem ql (kvs : List (Str × V)) (x : Str) : (io kvs x).length ≤ kvs.length := List.length_filter_le _ _
noncomputable def jJ : bK := fun vs σ Q => onRS vs fun a x => ∃ kvs ep v, σ a = some (.dict kvs ep) ∧ cA kvs x = some v ∧ ∀ ep', Q v (aY σ a (.dict (io kvs x) ep'))
theorem uk : mY C k (fun ws => PySem.call (.builtin "dict.pop") ws) jJ := by
 intro A s σ vs ws Q P E ao R hv q hP
 replace q := onRS.elim q
 obtain ⟨a, x, rfl, q⟩ := q
 ·obtain ⟨wa, wb, rfl, h1, h2⟩ := hv.inv2
  cases h1; cases h2
  obtain ⟨kvs, ep, v, hx, hv, q⟩ := q
  obtain ⟨hz, kws, h1, h2⟩ := R.view _ _ hx
  obtain ⟨w, e1, e2⟩ := h2.find hv
  have hl := h2.length
  refine call_meetsIn F.slot_dict_pop h1.dictOf.typeIs F.entry_dict_pop (F.args_dict_pop_2 _ _) (meets_dict_pop_there (strKind C.prog C.w) a (gH x _) [] (.inl rfl) rfl) ⟨kws, w, h1.dictOf, by rw [sizeLine_eq]; omega, e1, fun h' hd' hs' => ?_⟩
  obtain ⟨ep', hat⟩ := hd'.dictAt
  have kt : a0 s.heap h' := fun b o eb ht => hs'.extBut b o (by rintro rfl; exact jT h1 o eb ht) eb
  have vl := ql kvs x
  exact hP v w (aY σ a (.dict (io kvs x) ep')) _ (e2.keep kt) (R.change (tk := s.toks + 1) hx hs' ⟨by omega, _, hat, h2.without.keep kt⟩) (.change hx hs') (q ep')
theorem o5 {o : Expr} {apos pos : Pos} {es : List Expr} {To : ET} {L : LT} (ho : HE C sc k o To) (hl : HL C sc k es L) (hp : aJ es = true)
  (hbase : ∀ env, attributeBase o (Str.ofString "pop") env (eval o env) = eval o env) (hline : (apos.endLine == pos.line) = true) (hfew : es.length < 30) : HE C sc k (.Call (.Attribute o (Str.ofString "pop") apos) es [] pos) (bg bz jJ To L) :=
 fe jI F.plainAttrs_dict F.slot_dict_pop F.type_dict_pop uk ho hl hp hbase hline hfew
end
end Mine
end
noncomputable section
namespace Mine
open PySem PySem.W PyProof.Rows PySem.Calls
section
variable {σ : ah} {Q : V → ah → Prop} {ns : List Int}
@[simp] theorem vC {m : bb} : fJ m σ Q = sG [] σ Q := rfl
theorem df {a : Addr} {kvs : List (Str × V)} {ep : Nat} {x : Str} {v : V} {R : ah → Prop} (h : σ a = some (.dict kvs ep)) (hz : kvs.length < 16777216) (q : ∀ ep', R (aY σ a (.dict (bG kvs x v) ep'))) : iq (.ref a) (.str x) v σ R := ⟨kvs, ep, h, hz, q⟩
theorem kH {a : Addr} {kvs : List (Str × V)} {ep : Nat} {x : Str} (h : σ a = some (.dict kvs ep)) (q : Q (.bool (cA kvs x).isSome) σ) : gT (.str x) (.ref a) σ Q := ⟨kvs, ep, h, q⟩
theorem jO {a : Addr} {kvs : List (Str × V)} {ep : Nat} {x : Str} {v : V} (h : σ a = some (.dict kvs ep)) (hv : cA kvs x = some v) (q : Q v σ) : dv (.ref a) (.str x) σ Q := ⟨kvs, ep, v, h, hv, q⟩
theorem lM {a : Addr} {kvs : List (Str × V)} {ep : Nat} {x : Str} {v : V} (h : σ a = some (.dict kvs ep)) (hv : cA kvs x = some v) (q : ∀ ep', Q v (aY σ a (.dict (io kvs x) ep'))) : jJ [.ref a, .str x] σ Q := ⟨kvs, ep, v, h, hv, q⟩
theorem du {a : Addr} {kvs : List (Str × V)} {ep : Nat} (h : σ a = some (.dict kvs ep)) : bz (.ref a) σ = True := by simp [bz, h]
theorem cO {a : Addr} {kvs : List (Str × V)} {ep : Nat} (h : σ a = some (.dict kvs ep)) {R : List V → (ah → Prop) → ah → Prop} : gJ ns (.ref a) σ R = R (kvs.map fun q => .str q.1) (fun σ => σ a = some (.dict kvs ep)) σ := by show iz a σ R (σ a) = _; rw [h]; rfl
end
theorem bZ (kvs : List (Str × V)) (x : Str) : (cA kvs x).isSome = decide (x ∈ kvs.map (·.1)) := by
 unfold cA
 rw [Option.isSome_map, Bool.eq_iff_iff, List.find?_isSome]
 simp
theorem dL {kvs : List (Str × V)} {x : Str} (h : x ∈ kvs.map (·.1)) : ∃ v, cA kvs x = some v ∧ (x, v) ∈ kvs := by
 have := bZ kvs x
 rw [decide_eq_true h] at this
 obtain ⟨v, hv⟩ := Option.isSome_iff_exists.mp this
 refine ⟨v, hv, ?_⟩
 unfold cA at hv
 obtain ⟨⟨k', v'⟩, h1, h2⟩ := Option.map_eq_some_iff.mp hv
 have h3 := List.find?_some h1
 have h4 := List.mem_of_find?_eq_some h1
 simp at h3 h2
 subst h3; subst h2; exact h4
theorem gO {kvs : List (Str × V)} {k : Str} {v : V} {q : Str × V} (h : q ∈ bG kvs k v) : q = (k, v) ∨ q ∈ kvs := by
 unfold bG at h
 split at h
 ·obtain ⟨r, hr, rfl⟩ := List.mem_map.mp h
  by_cases c : r.1 = k
  ·rw [if_pos c, c]; exact .inl rfl
  ·rw [if_neg c]; exact .inr hr
 ·rcases List.mem_append.mp h with h | h
  ·exact .inr h
  ·simp at h; exact .inl h
theorem fW (kvs : List (Str × V)) (k : Str) (v : V) : ∀ x, x ∈ (bG kvs k v).map (·.1) ↔ x = k ∨ x ∈ kvs.map (·.1) := by
 intro x
 unfold bG
 split
 ·rename_i h
  have e : (kvs.map fun kv => if kv.1 = k then (kv.1, v) else kv).map (·.1) = kvs.map (·.1) := by
   rw [List.map_map]; apply List.map_congr_left; intro q _; simp only [Function.comp]; split <;> rfl
  rw [e]
  have hk : k ∈ kvs.map (·.1) := by
   obtain ⟨q, hq, e⟩ := List.any_eq_true.mp h
   exact List.mem_map.mpr ⟨q, hq, by simpa using e⟩
  constructor
  ·exact .inr
  ·rintro (rfl | h)
   ·exact hk
   ·exact h
 ·simp only [List.map_append, List.mem_append, List.map_cons, List.map_nil, List.mem_singleton]
  constructor
  ·rintro (h | h)
   ·exact .inr h
   ·exact .inl h
  ·rintro (h | h)
   ·exact .inr h
   ·exact .inl h
theorem fi {kvs : List (Str × V)} {k : Str} {v : V} (h : (kvs.map (·.1)).Nodup) : ((bG kvs k v).map (·.1)).Nodup := by
 unfold bG
 split
 ·have e : (kvs.map fun kv => if kv.1 = k then (kv.1, v) else kv).map (·.1) = kvs.map (·.1) := by
   rw [List.map_map]; apply List.map_congr_left; intro q _; simp only [Function.comp]; split <;> rfl
  rw [e]; exact h
 ·rename_i hn
  rw [List.map_append, List.nodup_append]
  refine ⟨h, by simp, ?_⟩
  intro a ha b hb
  simp at hb
  subst hb
  rintro rfl
  obtain ⟨q, hq, e⟩ := List.mem_map.mp ha
  exact hn (List.any_eq_true.mpr ⟨q, hq, by simpa using e⟩)
theorem pc (kvs : List (Str × V)) (k : Str) : ∀ x, x ∈ (io kvs k).map (·.1) ↔ x ≠ k ∧ x ∈ kvs.map (·.1) := by
 intro x
 unfold io
 constructor
 ·intro h
  obtain ⟨q, hq, rfl⟩ := List.mem_map.mp h
  obtain ⟨h1, h2⟩ := List.mem_filter.mp hq
  exact ⟨by simpa using h2, List.mem_map.mpr ⟨q, h1, rfl⟩⟩
 ·rintro ⟨h1, h2⟩
  obtain ⟨q, hq, rfl⟩ := List.mem_map.mp h2
  exact List.mem_map.mpr ⟨q, List.mem_filter.mpr ⟨hq, by simpa using h1⟩, rfl⟩
theorem nb {kvs : List (Str × V)} {k : Str} (h : (kvs.map (·.1)).Nodup) : ((io kvs k).map (·.1)).Nodup := h.sublist (List.filter_sublist.map _)
theorem qk {kvs : List (Str × V)} {k : Str} {q : Str × V} (h : q ∈ io kvs k) : q ∈ kvs := (List.mem_filter.mp h).1
end Mine
end
noncomputable section
namespace Mine
open PySem AutoSeq1 MeetsSeq MeetsSeq2 MeetsSeq3 SeqRoads2
noncomputable def EqW (C : Cx) (A : Around) (s : Shared) (y x : Value) (b : Bool) : Prop :=
 ∀ (E : Value → Shared → Prop) (Q : Bool → Shared → Prop), Q b s → wpAny (model C.prog C.w) A (eqBool y x) Q E s
noncomputable def EqWs (C : Cx) (A : Around) (s : Shared) : List Value → List Value → Bool → Prop
 | [], [], b => b = true
 | [], _ :: _, b => b = false
 | _ :: _, [], b => b = false
 | x :: xs, y :: ys, b => ∃ e, EqW C A s x y e ∧ ((e = true ∧ EqWs C A s xs ys b) ∨ (e = false ∧ b = false))
noncomputable def vH (op : CmpOp) (b : Bool) : Bool := match op with | .Eq => b | _ => !b
noncomputable def x9 (C : Cx) (A : Around) (s : Shared) (y x : Value) (b : Bool) : Prop :=
 ∀ (op : CmpOp) (E : Value → Shared → Prop) (Q : Value → Shared → Prop), op = .Eq ∨ op = .NotEq → Q (.bool (vH op b)) s → wpAny (model C.prog C.w) A (richCompare op y x) Q E s
section
variable {C : Cx} {A : Around} {s : Shared}
theorem EqW.of_refs {l b : Addr} {k : Bool} (hne : l ≠ b) (h : x9 C A s (.ref l) (.ref b) k) : EqW C A s (.ref l) (.ref b) k := fun E Q hq => by
 unfold eqBool
 refine wpAny_holding ?_
 refine wpAny_ite_split (fun hab => absurd (by have := eq_of_beq hab; injection this) hne) (fun _ => ?_)
 exact wpAny_bind (h .Eq E _ (.inl rfl) (wpAny_truthy_bool hq))
theorem EqW.at {y x : Value} {b : Bool} (h : SeqAt.EqAt A s y x b) : EqW C A s y x b := fun E Q hq => h C.prog C.w E Q hq
end
end Mine
end
noncomputable section
namespace Mine
open PySem AutoSeq1 MeetsSeq MeetsSeq2 MeetsSeq3 SeqRoads2
section
variable {C : Cx}
theorem EqWs.fin {A : Around} {s : Shared} {r : Bool} : ∀ {us vs : List Value}, [] = us.zip vs → EqWs C A s us vs r → r = decide (us.length = vs.length)
 | [], [], _, h => by cases (h : r = true); rfl
 | [], _ :: _, _, h => by cases (h : r = false); rfl
 | _ :: _, [], _, h => by cases (h : r = false); rfl
 | _ :: _, _ :: _, e, _ => by simp at e
theorem wP {A : Around} {s : Shared} {R : Result → Shared → Prop} (l b : Addr) (xs ys : List Value) (n n2 : Nat) (dd dd2 : Option Addr) (sl sl2 : Array (Option Value)) {r : Bool}
  (hl : s.heap.get? l = some { cls := .type "tuple", dict := dd, data := .seq xs.toArray n, slots := sl }) (hb : s.heap.get? b = some { cls := .type "tuple", dict := dd2, data := .seq ys.toArray n2, slots := sl2 })
  (he : EqWs C A.in1 s xs ys r) (h : R (.ok (.ret (.bool r))) s) :
  wpAny (model C.prog C.w) A.in1 (Builtin.«tuple.__eq__» ⟨[.ref l, .ref b], []⟩) (fun fin s' => match fin with | .done f => R (.ok f) s' | .again c' => c'.quiet = true ∧ codeAny (model C.prog C.w) A c' R s') (fun e s' => R (.error e) s') s := by
 obtain ⟨hp, g, d, tk, os⟩ := s
 have f2 := AutoSeq1.sub_tuple_tuple
 wp_walk using wpAny_loadPart' hl, wpAny_loadPart' hb, wpAny_forIn_list _ (fun rest b s' => b.1 = none ∧ s' = ⟨hp, g, d, tk, os⟩ ∧ ∃ us vs, rest = us.zip vs ∧ EqWs C A.in1 ⟨hp, g, d, tk, os⟩ us vs r ∧ (xs.length = ys.length ↔ us.length = vs.length)) _
 case turn =>
  rintro ⟨x, y⟩ rest b s' ⟨hb', rfl, us, vs, hz, hr, hlen⟩
  match us, vs, hz, hr with
  | [], _, hz, _ => simp at hz
  | _ :: _, [], hz, _ => simp at hz
  | u :: us, v :: vs, hz, ⟨e, h1, h2⟩ =>
   simp only [List.zip_cons_cons, List.cons.injEq, Prod.mk.injEq] at hz
   obtain ⟨⟨rfl, rfl⟩, rfl⟩ := hz
   dsimp only
   refine wpAny_bind (h1 _ _ ?_)
   rcases h2 with ⟨rfl, h2⟩ | ⟨rfl, h2⟩
   ·simp only [Bool.not_true, Bool.false_eq_true, if_false]
    exact wpAny_pure ⟨rfl, rfl, us, vs, rfl, h2, by simpa using hlen⟩
   ·subst h2
    simp only [Bool.not_false, if_true]
    refine wpAny_bind (wpAny_pure (wpAny_pure ?_))
    exact wpAny_pure h
 case fin =>
  rintro ⟨b1, b2⟩ s' ⟨hb', rfl, us, vs, hz, hr, hlen⟩
  simp only at hb'
  subst hb'
  have e := EqWs.fin hz hr
  dsimp only
  refine wpAny_pure ?_
  have e2 : Builtin.Tuple.tupleCompareSizes CmpOp.Eq xs.toArray.size ys.toArray.size = .bool r := by
   show Value.bool (xs.toArray.size == ys.toArray.size) = _
   rw [e, List.size_toArray, List.size_toArray]
   by_cases hq : xs.length = ys.length
   ·simp [hq, hlen.mp hq]
   ·have : ¬ us.length = vs.length := fun z => hq (hlen.mpr z)
    simp [hq, this]
  rw [e2]
  exact h
 case h => exact ⟨rfl, rfl, xs, ys, by simp, he, Iff.rfl⟩
theorem rd (l b : Addr) (xs ys : List Value) (n n2 : Nat) (dd dd2 : Option Addr) (sl sl2 : Array (Option Value)) (hsz : xs.length = ys.length) : ∀ (us vs : List Value) (i : Nat) {A : Around} {s : Shared} {R : Result → Shared → Prop} {r : Bool},
  us = xs.drop i → vs = ys.drop i → i ≤ xs.length →
  s.heap.get? l = some { cls := .type "list", dict := dd, data := .seq xs.toArray n, slots := sl } → s.heap.get? b = some { cls := .type "list", dict := dd2, data := .seq ys.toArray n2, slots := sl2 } →
  EqWs C A.in1 s us vs r → R (.ok (.ret (.bool r))) s →
  wpAny (model C.prog C.w) A.in1 (Builtin.«list.__eq__.loop» ⟨[.ref l, .ref b, rawInt i, rawInt 2], []⟩) (fun fin s' => match fin with | .done f => R (.ok f) s' | .again c' => c'.quiet = true ∧ codeAny (model C.prog C.w) A c' R s') (fun e s' => R (.error e) s') s := by
 intro us
 induction us with
 | nil =>
  intro vs i A s R r e1 e2 hi hl hb he h
  obtain ⟨hp, g, d, tk, os⟩ := s
  have hil : i = xs.length := ga e1.symm hi
  have hv : vs = [] := by rw [e2]; exact List.drop_of_length_le (by exact bw fun hg => lN [(xs.length), (ys.length), i] 0xa6184c4090a1 rfl (Nat.le_of_eq (Eq.symm hsz)) (Nat.le_of_eq (Eq.symm hil)) hg)
  subst hv
  cases (he : r = true)
  wp_walk using wpAny_loadPart' hl, wpAny_loadPart' hb
  have hi1 : xs.toArray[((i : Nat) : Int).toNat]? = none := by simp; exact Nat.le_of_eq hil.symm
  have hi2 : ys.toArray[((i : Nat) : Int).toNat]? = none := by simp; exact bw fun hg => lN [(xs.length), (ys.length), i] 0xa6184c4090a1 rfl (Nat.le_of_eq (Eq.symm hsz)) (Nat.le_of_eq (Eq.symm hil)) hg
  rw [hi1, hi2]
  wp_walk using wpAny_loadPart' hl, wpAny_loadPart' hb
  show R (.ok (.ret (.bool (xs.toArray.size == ys.toArray.size)))) _
  simpa [hsz] using h
 | cons u us ih =>
  intro vs i A s R r e1 e2 hi hl hb he h
  obtain ⟨hp, g, d, tk, os⟩ := s
  have hlt : i < xs.length := iB e1.symm
  have hlt2 : i < ys.length := by exact Nat.lt_of_lt_of_eq hlt hsz
  rw [List.drop_eq_getElem_cons hlt] at e1
  rw [List.drop_eq_getElem_cons hlt2] at e2
  injection e1 with e1 e3
  subst e2
  obtain ⟨e, h1, h2⟩ := he
  have hi1 : xs.toArray[((i : Nat) : Int).toNat]? = some u := by simp [hlt, e1]
  have hi2 : ys.toArray[((i : Nat) : Int).toNat]? = some ys[i] := by simp [hlt2]
  have hc : ((i : Int) + 1) = ((i + 1 : Nat) : Int) := by push_cast; rfl
  wp_walk using wpAny_loadPart' hl, wpAny_loadPart' hb
  rw [hi1, hi2]
  refine wpAny_bind (h1 _ _ ?_)
  rcases h2 with ⟨rfl, h2⟩ | ⟨rfl, h2⟩
  ·wp_walk
   rw [hc]
   exact ⟨plainId_quiet plain_eq_loop _, codeAny_builtin entry_eq_loop (by
    rw [Around.under_plainId plain_eq_loop _]
    exact ih (ys.drop (i + 1)) (i + 1) e3 rfl (by exact hlt) hl hb h2 h)⟩
  ·subst h2
   wp_walk using wpAny_loadPart' hl, wpAny_loadPart' hb
   rw [hi1, hi2]
   wp_walk
   simpa using h
theorem re {A : Around} {s : Shared} {R : Result → Shared → Prop} (l b : Addr) (xs ys : List Value) (n n2 : Nat) (dd dd2 : Option Addr) (sl sl2 : Array (Option Value)) {r : Bool}
  (hl : s.heap.get? l = some { cls := .type "list", dict := dd, data := .seq xs.toArray n, slots := sl }) (hb : s.heap.get? b = some { cls := .type "list", dict := dd2, data := .seq ys.toArray n2, slots := sl2 })
  (he : xs.length = ys.length → EqWs C A.in1 s xs ys r) (hne : xs.length ≠ ys.length → r = false) (h : R (.ok (.ret (.bool r))) s) :
  wpAny (model C.prog C.w) A.in1 (Builtin.«list.__eq__» ⟨[.ref l, .ref b], []⟩) (fun fin s' => match fin with | .done f => R (.ok f) s' | .again c' => c'.quiet = true ∧ codeAny (model C.prog C.w) A c' R s') (fun e s' => R (.error e) s') s := by
 obtain ⟨hp, g, d, tk, os⟩ := s
 have f3 := AutoSeq1.sub_list_list
 by_cases hsz : xs.length = ys.length
 ·have hn' : ¬ (xs.toArray.size != ys.toArray.size) = true := by simp [hsz]
  wp_walk using wpAny_loadPart' hl, wpAny_loadPart' hb
  exact ⟨plainId_quiet plain_eq_loop _, codeAny_builtin entry_eq_loop (by
   rw [Around.under_plainId plain_eq_loop _]
   exact rd l b xs ys n n2 dd dd2 sl sl2 hsz xs ys 0 rfl rfl (Nat.zero_le _) hl hb (he hsz) h)⟩
 ·have hc0 : (xs.toArray.size != ys.toArray.size) = true := by simpa using hsz
  cases hne hsz
  wp_walk using wpAny_loadPart' hl, wpAny_loadPart' hb
  exact h
end
end Mine
end
noncomputable section
namespace Mine
open PySem PySem.W PyProof.Rows PySem.Calls
section
variable {C : Cx} {sc : Scope} {k : Nat}
theorem PRel.keys {aS : Addr} {h : Heap} {a : List (Str × V)} {b : List (Str × Value)} (x : PRel aS h a b) : a.map (·.1) = b.map (·.1) :=
 x.ind (P := fun a b => a.map (·.1) = b.map (·.1)) rfl fun _ _ _ _ _ _ _ ih => by rw [List.map_cons, List.map_cons, ih]
end
end Mine
end
noncomputable section
namespace Mine
open PySem PyProof.Rows
noncomputable def yA : Keyed := (.none, .none)
noncomputable def tk {O : KeyOrd} (key : Keyed → O.α) (xs : Array Keyed) (i : Nat) : O.α := key (xs[i]?.getD yA)
noncomputable def o3 {O : KeyOrd} (key : Keyed → O.α) (xs : Array Keyed) (i j : Nat) : Prop := ∀ p q, i ≤ p → p ≤ q → q < j → O.kle (tk key xs p) (tk key xs q)
noncomputable def vE {O : KeyOrd} (key : Keyed → O.α) (xs : Array Keyed) (i j : Nat) : Prop := ∀ p q, i ≤ p → p ≤ q → q < j → O.kle (tk key xs q) (tk key xs p)
structure SB (kd : SortKind) (a₀ : Array Keyed) (st : SortSt) : Prop where
 perm : (arrOf st).Perm a₀
 kind : kindOf st = kd
 failed : failedOf st = none
structure Kept (lo : Nat) (st st' : SortSt) : Prop where
 pend : pendingOf st' = pendingOf st
 low : ∀ k, k < lo → (arrOf st')[k]? = (arrOf st)[k]?
noncomputable def jt (prog : Program) (w : World) (A : Around) (E : Value → Shared → Prop) (s : Shared) (kd : SortKind) (O : KeyOrd) (key : Keyed → O.α) (a₀ : Array Keyed) : Prop :=
 ∀ x y, x ∈ a₀.toList → y ∈ a₀.toList → ∀ (Q : Option Bool → SortSt → Prop) (st : SortSt), kindOf st = kd →
  Q (some (O.blt (key x) (key y))) st → wpS (model prog w) A E s (lt' x y) Q st
theorem Kept.refl {lo : Nat} {st : SortSt} : Kept lo st st := ⟨rfl, fun _ _ => rfl⟩
theorem Kept.trans {lo : Nat} {a b c : SortSt} (h : Kept lo a b) (k : Kept lo b c) : Kept lo a c :=
 ⟨k.pend.trans h.pend, fun i hi => (k.low i hi).trans (h.low i hi)⟩
section pure
variable {O : KeyOrd} {key : Keyed → O.α} {kd : SortKind} {a₀ : Array Keyed}
theorem SB.size {st : SortSt} (h : SB kd a₀ st) : (arrOf st).size = a₀.size := h.perm.size_eq
theorem SB.setArr {st : SortSt} (h : SB kd a₀ st) {xs : Array Keyed} (hp : xs.Perm (arrOf st)) : SB kd a₀ (setArr st xs) :=
 ⟨hp.trans h.perm, h.kind, h.failed⟩
theorem SB.at {st : SortSt} (h : SB kd a₀ st) {i : Nat} (hi : i < a₀.size) :
  ∃ x, (arrOf st)[i]? = some x ∧ x ∈ a₀.toList ∧ tk key (arrOf st) i = key x := by
 have hi' : i < (arrOf st).size := by rw [h.size]; exact hi
 have e : (arrOf st)[i]? = some (arrOf st)[i] := getElem?_pos _ i hi'
 refine ⟨_, e, (Array.perm_iff_toList_perm.mp h.perm).mem_iff.mp (by simp), ?_⟩
 unfold tk
 rw [e]
 rfl
theorem dO {xs ys : Array Keyed} {i j : Nat} (h : xs[i]? = ys[j]?) : tk key xs i = tk key ys j := by unfold tk; rw [h]
theorem pf {xs : Array Keyed} {src d : Nat} (hs : src < xs.size) (hd : d ≤ src) (k : Nat) :
  tk key (bubble xs src d) k = if k = src - d then tk key xs src else if src - d < k ∧ k ≤ src then tk key xs (k - 1) else tk key xs k := by
 have e := getElem?_bubble hs d hd k
 split
 ·rename_i h; rw [if_pos h] at e; exact dO e
 ·rename_i h
  rw [if_neg h] at e
  split
  ·rename_i h2; rw [if_pos h2] at e; exact dO e
  ·rename_i h2; rw [if_neg h2] at e; exact dO e
theorem gz {xs : Array Keyed} {i j : Nat} (hj : j ≤ xs.size) (k : Nat) :
  tk key (mirror xs i j ((j - i) / 2)) k = if i ≤ k ∧ k < j then tk key xs (i + j - 1 - k) else tk key xs k := by
 have e := getElem?_mirror_all (i := i) hj k
 split
 ·rename_i h; rw [if_pos h] at e; exact dO e
 ·rename_i h; rw [if_neg h] at e; exact dO e
theorem bO {xs : Array Keyed} {i j : Nat} (hj : j ≤ xs.size) (heq : ∀ k, i ≤ k → k < j → tk key xs k = tk key xs (j - 1)) (k : Nat) :
  tk key (mirror xs i j ((j - i) / 2)) k = tk key xs k := by
 rw [gz hj]
 split
 ·rw [heq _ (by (rename_i zz0; exact bw fun hg => lN [j, i, k, (i + j - 1 - k), (i + j - 1)] 0x14e30a064280263810121861 rfl (zz0).2 (a9 (i + j - 1) (k)) (a9 (i + j) (1)) hg)) (by (rename_i zz0; exact jB fun hg => lN [j, i, k, (i + j - 1 - k), (i + j - 1)] 0x72048502061418e0098a1 rfl (zz0).1 (bj (bw fun hg => lN [j, i, k, (i + j - 1)] 0xc7184e32140121861 rfl (zz0).2 (a9 (i + j) (1)) hg)) (bj (bw fun hg => lN [j, i, k] 0x42121403090c3098a1 rfl (zz0).1 (zz0).2 hg)) hg)), heq k (by (rename_i zz0; exact zz0.1)) (by (rename_i zz0; exact zz0.2))]
 ·rfl
theorem c7 {st : SortSt} {lo i j : Nat} (hj : j ≤ (arrOf st).size) (hi : lo ≤ i) : Kept lo st (setArr st (mirror (arrOf st) i j ((j - i) / 2))) :=
 ⟨rfl, fun k hk => by
  show (mirror (arrOf st) i j ((j - i) / 2))[k]? = _
  rw [getElem?_mirror_all hj, if_neg (by exact fun hg => lN [lo, i, k] 0xc5090c309481 rfl hi hk (hg).1)]⟩
end pure
section walk
variable {prog : Program} {w : World} {A : Around} {E : Value → Shared → Prop} {s : Shared} {kd : SortKind} {O : KeyOrd} {key : Keyed → O.α} {a₀ : Array Keyed}
theorem sf {st : SortSt} {i j : Nat} {Q : Option Bool → SortSt → Prop} (hL : jt prog w A E s kd O key a₀) (hB : SB kd a₀ st) (hi : i < a₀.size) (hj : j < a₀.size)
  (h : Q (some (O.blt (tk key (arrOf st) i) (tk key (arrOf st) j))) st) : wpS (model prog w) A E s (ltAt' i j) Q st := by
 obtain ⟨x, e1, m1, k1⟩ := hB.at (key := key) hi
 obtain ⟨y, e2, m2, k2⟩ := hB.at (key := key) hj
 rw [k1, k2] at h
 rw [ltAt'_eq]
 refine wpS_bind (wpS_get ?_)
 show wpS _ _ _ _ (do let x ← elem' (arrOf st) i; let y ← elem' (arrOf st) j; lt' x y) Q st
 rw [elem'_eq, elem'_eq, e1, e2]
 exact wpS_bind (wpS_pure (wpS_bind (wpS_pure (hL _ _ m1 m2 _ _ hB.kind h))))
theorem dN {β : Type} {st : SortSt} {i j : Nat} {f : Option Bool → StateT SortSt Sem β} {Q : β → SortSt → Prop} (hL : jt prog w A E s kd O key a₀) (hB : SB kd a₀ st) (hi : i < a₀.size) (hj : j < a₀.size)
  (h : wpS (model prog w) A E s (f (some (O.blt (tk key (arrOf st) i) (tk key (arrOf st) j)))) Q st) : wpS (model prog w) A E s (ltAt' i j >>= f) Q st := wpS_bind (sf hL hB hi hj h)
theorem kq {st : SortSt} {i j : Nat} {Q : Unit → SortSt → Prop} (h : Q () (setArr st (mirror (arrOf st) i j ((j - i) / 2)))) :
  wpS (model prog w) A E s (reverseSlice' i j) Q st := by
 rw [reverseSlice'_eq]
 exact wpS_modify h
theorem kr {β γ : Type} {lo hi : Nat} {f : Nat → β → StateT SortSt Sem (ForInStep β)} {k : β → StateT SortSt Sem γ} {c : β} {st : SortSt} {Q : γ → SortSt → Prop} (I : Nat → β → SortSt → Prop) (P : β → SortSt → Prop)
  (hstep : ∀ F, F = f → ∀ i c st, lo ≤ i → i < hi → I i c st → wpS (model prog w) A E s (F i c) (fun r st' => match r with | .done c' => P c' st' | .yield c' => I (i + 1) c' st') st)
  (hend : ∀ c st, I (max lo hi) c st → P c st) (hinit : I lo c st) (hpost : ∀ K, K = k → ∀ c st, P c st → wpS (model prog w) A E s (K c) Q st) : wpS (model prog w) A E s (forIn [lo:hi] c f >>= k) Q st :=
 wpS_bind (wpS_mono (wpS_forRange I (hstep f rfl) hend hinit) (hpost k rfl))
theorem qo {β γ : Type} {lo hi : Nat} {f : Nat → β → StateT SortSt Sem (ForInStep β)} {k : β → StateT SortSt Sem γ} {c : β} {st : SortSt} {Q : γ → SortSt → Prop} (I : Nat → β → SortSt → Prop) (P : β → SortSt → Prop)
  (hstep : ∀ F, F = f → ∀ i c st, I i c st → wpS (model prog w) A E s (F i c) (fun r st' => match r with | .done c' => P c' st' | .yield c' => I (i + 1) c' st') st)
  (hend : ∀ c st, I (max lo hi) c st → P c st) (hinit : I lo c st) (hpost : ∀ K, K = k → ∀ c st, P c st → wpS (model prog w) A E s (K c) Q st) : wpS (model prog w) A E s (forIn [lo:hi] c f >>= k) Q st :=
 kr I P (fun F e i c st _ _ => hstep F e i c st) hend hinit hpost
theorem fZ {β : Type} {f : SortSt → StateT SortSt Sem β} {Q : β → SortSt → Prop} {st : SortSt} (h : wpS (model prog w) A E s (f st) Q st) : wpS (model prog w) A E s (get >>= f) Q st := wpS_bind (wpS_get h)
theorem se {β : Type} {g : SortSt → SortSt} {f : PUnit → StateT SortSt Sem β} {Q : β → SortSt → Prop} {st : SortSt} (h : wpS (model prog w) A E s (f ⟨⟩) Q (g st)) : wpS (model prog w) A E s (modify g >>= f) Q st := wpS_bind (wpS_modify h)
theorem lE {β : Type} {tag : String} {f : Unit → StateT SortSt Sem β} {Q : β → SortSt → Prop} {st : SortSt} (h : wpS (model prog w) A E s (f ()) Q st) : wpS (model prog w) A E s ((liftM (rule tag) : StateT SortSt Sem Unit) >>= f) Q st := wpS_bind (wpS_lift (wpAny_rule ⟨rfl, h⟩))
theorem qt {α β : Type} {m : StateT SortSt Sem α} {f : α → StateT SortSt Sem β} {Q : β → SortSt → Prop} {st : SortSt} (h : ∀ K, K = f → wpS (model prog w) A E s m (fun a st' => wpS (model prog w) A E s (K a) Q st') st) : wpS (model prog w) A E s (m >>= f) Q st := wpS_bind (h f rfl)
theorem t0 {st : SortSt} {lo n ok : Nat} {Q : Bool → SortSt → Prop} (hL : jt prog w A E s kd O key a₀) (hn : lo + n ≤ a₀.size) (hok : ok ≤ n) (hB : SB kd a₀ st)
  (hs : o3 key (arrOf st) lo (lo + ok))
  (h : ∀ st', SB kd a₀ st' → Kept lo st st' → o3 key (arrOf st') lo (lo + n) → Q true st') : wpS (model prog w) A E s (binarySort' lo n ok) Q st := by
 rw [binarySort'_eq]
 refine kr (fun k c st' => c = (none, ()) ∧ SB kd a₀ st' ∧ Kept lo st st' ∧ o3 key (arrOf st') lo (lo + min k n))
  (fun c st' => c = (none, ()) ∧ SB kd a₀ st' ∧ Kept lo st st' ∧ o3 key (arrOf st') lo (lo + n)) ?step ?fin ?init ?post
 case post =>
  rintro K hKK c st' ⟨rfl, hB', hK, hs'⟩
  subst hKK
  exact wpS_pure (h st' hB' hK hs')
 case init =>
  refine ⟨rfl, hB, Kept.refl, fun i j hi hij hj => ?_⟩
  by_cases h1 : ok = 0
  ·have : i = j := by exact Nat.le_antisymm (bw fun hg => lN [i, j] 0x10a309481 rfl hij hg) (bw fun hg => Or.elim (kF (max ok 1) (n)) (fun hs0 => Or.elim (Mine.i3 (ok) (1)) (fun hs1 => lN [lo, ok, i, j, (min (max ok 1) n), (max ok 1)] 0x1521398614a02009428200e309881 rfl hi hj (Nat.le_of_eq h1) (Nat.min_le_left (max ok 1) (n)) hg hs1) (fun hs1 => lN [lo, i, j, (min (max ok 1) n), (max ok 1)] 0x1085013146141c27200c309481 rfl hi hj (Nat.min_le_left (max ok 1) (n)) hg hs1)) (fun hs0 => Or.elim (Mine.i3 (ok) (1)) (fun hs1 => lN [lo, ok, i, j, (min (max ok 1) n), (max ok 1)] 0x1521398614a02009428200e309881 rfl hi hj (Nat.le_of_eq h1) (Nat.min_le_left (max ok 1) (n)) hg hs1) (fun hs1 => lN [lo, i, j, (min (max ok 1) n), (max ok 1)] 0x1085013146141c27200c309481 rfl hi hj (Nat.min_le_left (max ok 1) (n)) hg hs1)))
   subst this; exact KeyOrd.kle_refl _
  ·exact hs i j hi hij (by exact jB fun hg => Or.elim (Nat.lt_or_gt_of_ne h1) (fun hs0 => lN [ok] 0x9061 rfl hs0) (fun hs0 => Or.elim (Mine.i3 (ok) (1)) (fun hs1 => lN [lo, ok, j, (min (max ok 1) n), (max ok 1)] 0x5404c520028384e401861 rfl hj (Nat.min_le_left (max ok 1) (n)) hg hs1) (fun hs1 => lN [lo, ok, j, (min (max ok 1) n), (max ok 1)] 0x842809401184c520028384e401861 rfl hj (Nat.min_le_left (max ok 1) (n)) hg hs0 hs1)))
 case fin =>
  rintro c st' ⟨hc, hB', hK, hs'⟩
  refine ⟨hc, hB', hK, ?_⟩
  rwa [show min (max (max ok 1) n) n = n by exact Nat.le_antisymm (bw fun hg => lN [n, (min (max (max ok 1) n) n)] 0x1483090a1 rfl (Nat.min_le_right (max (max ok 1) n) (n)) hg) (bw fun hg => Or.elim (kF (max (max ok 1) n) (n)) (fun hs0 => lN [n, (min (max (max ok 1) n) n), (max (max ok 1) n)] 0xa6090a309881 rfl (Nat.le_max_right (max ok 1) (n)) hg hs0) (fun hs0 => lN [n, (min (max (max ok 1) n) n)] 0x148121461 rfl hg hs0))] at hs'
 case step =>
  rintro F hF k c st' hak hkn ⟨rfl, hB', hK, hs'⟩
  rw [show min k n = k by exact Nat.le_antisymm (bw fun hg => lN [k, (min k n)] 0x1483090a1 rfl (Nat.min_le_left (k) (n)) hg) (bw fun hg => Or.elim (Mine.i3 (ok) (1)) (fun hs0 => Or.elim (kF (k) (n)) (fun hs1 => lN [k, (min k n)] 0x148121461 rfl hg hs1) (fun hs1 => lN [n, k, (min k n)] 0x18812986121461 rfl hkn hg hs1)) (fun hs0 => Or.elim (kF (k) (n)) (fun hs1 => lN [k, (min k n)] 0x148121461 rfl hg hs1) (fun hs1 => lN [n, k, (min k n)] 0x18812986121461 rfl hkn hg hs1)))] at hs'
  have hk : lo + k < a₀.size := by exact jB fun hg => lN [lo, n, (a₀.size), k] 0xe40182538c2629001 rfl hn hkn hg
  subst hF
  refine kr (fun x c st'' => st'' = st' ∧ ∃ l r, c = (none, l, r) ∧ l ≤ r ∧ r ≤ k ∧ r - l ≤ k - x ∧
    (∀ i, i < l → O.kle (tk key (arrOf st') (lo + i)) (tk key (arrOf st') (lo + k))) ∧ (∀ i, r ≤ i → i < k → O.klt (tk key (arrOf st') (lo + k)) (tk key (arrOf st') (lo + i))))
   (fun c st'' => st'' = st' ∧ ∃ l r, c = (none, l, r) ∧ l ≤ k ∧
    (∀ i, i < l → O.kle (tk key (arrOf st') (lo + i)) (tk key (arrOf st') (lo + k))) ∧ (∀ i, l ≤ i → i < k → O.klt (tk key (arrOf st') (lo + k)) (tk key (arrOf st') (lo + i)))) ?istep ?ifin ?iinit ?ipost
  case iinit => exact ⟨rfl, 0, k, rfl, by exact Nat.zero_le _, by exact Nat.le_refl _, by exact Nat.le_refl _, fun i hi => by exact False.elim (lN [i] 0x9061 rfl hi), fun i h1 h2 => by exact False.elim (lN [k, i] 0x10a309481 rfl h1 h2)⟩
  case ifin =>
   rintro c st'' ⟨rfl, l, r, rfl, hlr, hrk, hm, hlo, hhi⟩
   have : l = r := by exact Nat.le_antisymm (bw fun hg => lN [l, r] 0x10a309481 rfl hlr hg) (bw fun hg => lN [k, l, r, (r - l), (k - max 0 k)] 0x628c242200129c060a0e1 rfl hm (a9 (r) (l)) (bj (bw fun hg => lN [k] 0x21061 rfl hg)) hg)
   subst this
   exact ⟨rfl, l, l, rfl, hrk, hlo, hhi⟩
  case istep =>
   rintro F hF x c st'' _ hxk ⟨rfl, l, r, rfl, hlr, hrk, hm, hlo, hhi⟩
   subst hF
   dsimp only
   by_cases hge : l ≥ r
   ·rw [if_pos hge]
    have : l = r := by exact Nat.le_antisymm hlr hge
    subst this
    exact wpS_pure ⟨rfl, l, l, rfl, hrk, hlo, hhi⟩
   ·rw [if_neg hge]
    have hmid : (l + r) / 2 < r := Nat.div_lt_of_lt_mul (by rw [Nat.two_mul]; exact Nat.add_lt_add_right (Nat.lt_of_not_le hge) r)
    refine dN hL hB' hk (by exact jB fun hg => lN [lo, n, (a₀.size), k, l, r, ((l + r) / 2)] 0x2880309280284209d224a02538c4629002 rfl hn hkn hlr hrk (Mine.nX (l + r) 2) hg) ?_
    cases hless : O.blt (tk key (arrOf st'') (lo + k)) (tk key (arrOf st'') (lo + (l + r) / 2))
    case true =>
     simp only [if_true]
     refine wpS_pure ⟨rfl, l, (l + r) / 2, rfl, by exact bw fun hg => lN [l, r, ((l + r) / 2)] 0x10c310821308402900309481 rfl hlr (Mine.k6 (l + r) 2 (by decide)) hg, by exact bw fun hg => lN [k, l, r, ((l + r) / 2)] 0x720c46280e210486118a1 rfl hlr hrk (Mine.nX (l + r) 2) hg, by exact bw fun hg => lN [k, x, l, r, (r - l), (k - x), ((l + r) / 2 - l), (k - (x + 1)), ((l + r) / 2)] 0x29631146b0104c328022152009900384e6030420a50121461 rfl hxk hm (Mine.nX (l + r) 2) (a9 (r) (l)) (bj (bw fun hg => lN [k, x] 0x2906121461 rfl hxk hg)) (bj (bw fun hg => lN [l, r, ((l + r) / 2)] 0x10c310821308402900309481 rfl hlr (Mine.k6 (l + r) 2 (by decide)) hg)) (a9 (k) (x + 1)) hg, hlo, fun i h1 h2 => ?_⟩
     exact KeyOrd.klt_of_klt_of_kle hless (hs' _ _ (by exact Nat.le_add_right _ _) (by exact Nat.add_le_add_left h1 _) (by exact Nat.add_le_add_left h2 _))
    case false =>
     simp only [Bool.false_eq_true, if_false]
     refine wpS_pure ⟨rfl, (l + r) / 2 + 1, r, rfl, hmid, by exact hrk, by exact bw fun hg => Or.elim (Mine.i3 (ok) (1)) (fun hs0 => Or.elim (qx (r) ((l + r) / 2 + 1)) (fun hs1 => lN [k, x, l, r, (r - l), (k - x), (r - ((l + r) / 2 + 1)), (k - (x + 1)), ((l + r) / 2)] 0x760d40129631146b010442a401320070882160840398030a50121461 rfl hxk hm (Mine.k6 (l + r) 2 (by decide)) (a9 (r) (l)) (bj (bw fun hg => lN [k, x] 0x2906121461 rfl hxk hg)) (a9 (k) (x + 1)) hg (Nat.le_of_eq hs1)) (fun hs1 => lN [k, x, (r - ((l + r) / 2 + 1)), (k - (x + 1))] 0x1304c7184a33808121461 rfl hxk (a9 (k) (x + 1)) hg (Nat.le_of_eq hs1))) (fun hs0 => Or.elim (qx (r) ((l + r) / 2 + 1)) (fun hs1 => lN [k, x, l, r, (r - l), (k - x), (r - ((l + r) / 2 + 1)), (k - (x + 1)), ((l + r) / 2)] 0x760d40129631146b010442a401320070882160840398030a50121461 rfl hxk hm (Mine.k6 (l + r) 2 (by decide)) (a9 (r) (l)) (bj (bw fun hg => lN [k, x] 0x2906121461 rfl hxk hg)) (a9 (k) (x + 1)) hg (Nat.le_of_eq hs1)) (fun hs1 => lN [k, x, (r - ((l + r) / 2 + 1)), (k - (x + 1))] 0x1304c7184a33808121461 rfl hxk (a9 (k) (x + 1)) hg (Nat.le_of_eq hs1))), fun i h1 => ?_, hhi⟩
     exact KeyOrd.kle_trans (hs' (lo + i) (lo + (l + r) / 2) (by exact Nat.le_add_right _ _) (by exact bw fun hg => lN [lo, i, ((l + r) / 2)] 0x5200c400c2619461 rfl h1 hg) (Nat.add_lt_add_left (Nat.lt_of_lt_of_le hmid hrk) lo)) (show O.kle _ _ from hless)
  case ipost =>
   rintro K hKK c st'' ⟨rfl, l, r, rfl, hlk, hlo, hhi⟩
   subst hKK
   show wpS _ _ _ _ (do moveDown' (lo + k) (lo + l); pure (ForInStep.yield (none, ()))) _ _
   rw [moveDown'_eq]
   have hks : lo + k < (arrOf st'').size := by rw [hB'.size]; exact hk
   have hd : lo + k - (lo + l) ≤ lo + k := by exact Nat.sub_le _ _
   refine wpS_bind (wpS_modify (wpS_pure ⟨rfl, hB'.setArr (bubble_perm _ _ _), hK.trans ⟨rfl, fun i hi => ?_⟩, ?_⟩))
   ·show (bubble (arrOf st'') (lo + k) (lo + k - (lo + l)))[i]? = _
    rw [getElem?_bubble hks _ hd, if_neg (by exact fun hg => lN [lo, k, l, (lo + k - (lo + l)), i, (lo + k - (lo + k - (lo + l)))] 0x21213a40520025200c401c0122061 rfl hi (bj (bw fun hg => lN [lo, k, l] 0x188029003094c1 rfl hlk hg)) (a9 (lo + k) (lo + k - (lo + l))) (Nat.le_of_eq (Eq.symm hg))), if_neg (by omega)]
   rw [show min (k + 1) n = k + 1 by exact Nat.min_eq_left hkn]
   intro i j hi hij hj
   show O.kle (tk key (bubble (arrOf st'') (lo + k) (lo + k - (lo + l))) i) (tk key (bubble (arrOf st'') (lo + k) (lo + k - (lo + l))) j)
   have hp : lo + k - (lo + k - (lo + l)) = lo + l := Nat.sub_sub_self (Nat.add_le_add_left hlk lo)
   have V := pf (key := key) hks hd
   rw [hp] at V
   have v1 : ∀ x, x < lo + l → tk key (bubble (arrOf st'') (lo + k) (lo + k - (lo + l))) x = tk key (arrOf st'') x := fun x h => by rw [V, if_neg (Nat.ne_of_lt h), if_neg fun z => Nat.lt_asymm h z.1]
   have v3 : ∀ x, lo + l < x → x < lo + (k + 1) → tk key (bubble (arrOf st'') (lo + k) (lo + k - (lo + l))) x = tk key (arrOf st'') (x - 1) := fun x h g => by rw [V, if_neg (Nat.ne_of_gt h), if_pos ⟨h, Nat.le_of_lt_succ g⟩]
   have v2 := V (lo + l)
   rw [if_pos rfl] at v2
   clear V hp
   generalize bubble (arrOf st'') (lo + k) (lo + k - (lo + l)) = B at v1 v2 v3 ⊢
   have hlo' : ∀ i, lo ≤ i → i < lo + l → O.kle (tk key (arrOf st'') i) (tk key (arrOf st'') (lo + k)) := fun i h1 h2 => by
    have := hlo (i - lo) (Nat.sub_lt_left_of_lt_add h1 h2)
    rwa [Nat.add_sub_cancel' h1] at this
   have hhi' : ∀ i, lo + l < i → i < lo + (k + 1) → O.klt (tk key (arrOf st'') (lo + k)) (tk key (arrOf st'') (i - 1)) := fun i h1 h2 => by
    obtain ⟨m, rfl⟩ := Nat.exists_eq_add_of_lt h1
    have := hhi (l + m) (Nat.le_add_right _ _) (Nat.lt_of_succ_lt_succ (Nat.lt_of_add_lt_add_left (show lo + (l + m + 1) < lo + (k + 1) by rwa [← Nat.add_assoc, ← Nat.add_assoc])))
    rwa [← Nat.add_assoc] at this
   have pr : ∀ x, lo + l < x → x < lo + (k + 1) → lo ≤ x - 1 ∧ x - 1 < lo + k := fun x h g => ⟨Nat.le_sub_one_of_lt (Nat.lt_of_le_of_lt (Nat.le_add_right _ _) h), Nat.sub_one_lt_of_le (Nat.lt_of_le_of_lt (Nat.zero_le _) h) (Nat.le_of_lt_succ g)⟩
   rcases Nat.lt_trichotomy i (lo + l) with hi' | rfl | hi'
   ·rw [v1 i hi']
    rcases Nat.lt_trichotomy j (lo + l) with hj' | rfl | hj'
    ·rw [v1 j hj']; exact hs' _ _ hi hij (Nat.lt_of_lt_of_le hj' (Nat.add_le_add_left hlk lo))
    ·rw [v2]; exact hlo' i hi hi'
    ·rw [v3 j hj' hj]; exact hs' _ _ hi (Nat.le_sub_one_of_lt (Nat.lt_trans hi' hj')) (pr j hj' hj).2
   ·rw [v2]
    rcases Nat.lt_or_eq_of_le hij with hj' | rfl
    ·rw [v3 j hj' hj]; exact KeyOrd.kle_of_klt (hhi' j hj' hj)
    ·rw [v2]; exact KeyOrd.kle_refl _
   ·have hj' := Nat.lt_of_lt_of_le hi' hij
    rw [v3 i hi' (Nat.lt_of_le_of_lt hij hj), v3 j hj' hj]
    exact hs' _ _ (pr i hi' (Nat.lt_of_le_of_lt hij hj)).1 (Nat.sub_le_sub_right hij 1) (pr j hj' hj).2
end walk
end Mine
end
noncomputable section
namespace Mine
open PySem PyProof.Rows
noncomputable def rW (lo a nrem : Nat) : StateT SortSt Sem (Option (Option Nat) × Nat) :=
 forIn [a:nrem] ((none, a) : Option (Option Nat) × Nat) fun _ c => do
  let r ← ltAt' (lo + c.snd) (lo + c.snd - 1)
  match r with
  | some smaller => if smaller = true then pure (ForInStep.done (none, c.snd)) else pure (ForInStep.yield (none, c.snd + 1))
  | _ => pure (ForInStep.done (some none, c.snd))
noncomputable def rG (lo n nrem : Nat) : StateT SortSt Sem (Option Nat) := do
 reverseSlice' lo (lo + n)
 let c ← rW lo n nrem
 match c.fst with
 | some r => pure r
 | none => pure (some c.snd)
noncomputable def oJ (lo n nrem : Nat) : StateT SortSt Sem (Option (Option Nat) × Nat × Nat) :=
 forIn [n:nrem] ((none, n, 0) : Option (Option Nat) × Nat × Nat) fun _ c => do
  let r ← ltAt' (lo + c.snd.fst) (lo + c.snd.fst - 1)
  match r with
  | some smaller =>
   if smaller = true then
    if c.snd.snd > 0 then do
     reverseSlice' (lo + c.snd.fst - (c.snd.snd + 1)) (lo + c.snd.fst)
     pure (ForInStep.yield (none, c.snd.fst + 1, 0))
    else pure (ForInStep.yield (none, c.snd.fst + 1, 0))
   else do
    let r ← ltAt' (lo + c.snd.fst - 1) (lo + c.snd.fst)
    match r with
    | some larger =>
     if larger = true then pure (ForInStep.done (none, c.snd.fst, c.snd.snd))
     else pure (ForInStep.yield (none, c.snd.fst + 1, c.snd.snd + 1))
    | _ => pure (ForInStep.done (some none, c.snd.fst, c.snd.snd))
  | _ => pure (ForInStep.done (some none, c.snd.fst, c.snd.snd))
noncomputable def mr (lo n nrem : Nat) : StateT SortSt Sem (Option Nat) := do
 liftM (rule "list.sort.descending-run")
 let c ← oJ lo (n + 1) nrem
 match c.fst with
 | some r => pure r
 | none =>
  if c.snd.snd > 0 then do
   reverseSlice' (lo + c.snd.fst - (c.snd.snd + 1)) (lo + c.snd.fst)
   rG lo c.snd.fst nrem
  else rG lo c.snd.fst nrem
theorem p6 (lo nrem : Nat) : countRun' lo nrem = (do
  let c ← rW lo 1 nrem
  match c.fst with
  | some r => pure r
  | none =>
   if (c.snd == nrem) = true then pure (some c.snd)
   else if c.snd > 1 then do
    let r ← ltAt' lo (lo + c.snd - 1)
    match r with
    | some rose => if rose = true then pure (some c.snd) else do
      reverseSlice' lo (lo + c.snd)
      mr lo c.snd nrem
    | _ => pure none
   else mr lo c.snd nrem) := by
 rw [countRun'_eq]
 unfold mr rG oJ rW
 refine bind_congr fun c => ?_
 obtain ⟨r, n⟩ := c
 cases r with
 | some r => rfl
 | none =>
  dsimp only
  split
  ·rfl
  ·split
   ·refine bind_congr fun r => ?_
    cases r with
    | none => rfl
    | some rose =>
     dsimp only
     split
     ·rfl
     ·refine bind_congr fun _ => ?_
      refine bind_congr fun _ => ?_
      refine bind_congr fun c2 => ?_
      obtain ⟨r2, n2, q2⟩ := c2
      cases r2 with
      | some r2 => rfl
      | none =>
       dsimp only
       split
       ·refine bind_congr fun _ => ?_
        refine bind_congr fun _ => ?_
        refine bind_congr fun c3 => ?_
        obtain ⟨r3, n3⟩ := c3
        cases r3 <;> rfl
       ·refine bind_congr fun _ => ?_
        refine bind_congr fun c3 => ?_
        obtain ⟨r3, n3⟩ := c3
        cases r3 <;> rfl
   ·refine bind_congr fun _ => ?_
    refine bind_congr fun c2 => ?_
    obtain ⟨r2, n2, q2⟩ := c2
    cases r2 with
    | some r2 => rfl
    | none =>
     dsimp only
     split
     ·refine bind_congr fun _ => ?_
      refine bind_congr fun _ => ?_
      refine bind_congr fun c3 => ?_
      obtain ⟨r3, n3⟩ := c3
      cases r3 <;> rfl
     ·refine bind_congr fun _ => ?_
      refine bind_congr fun c3 => ?_
      obtain ⟨r3, n3⟩ := c3
      cases r3 <;> rfl
end Mine
end
noncomputable section
namespace Mine
open PySem PyProof.Rows
section walk
variable {prog : Program} {w : World} {A : Around} {E : Value → Shared → Prop} {s : Shared} {kd : SortKind} {O : KeyOrd} {key : Keyed → O.α} {a₀ : Array Keyed}
theorem qu {st : SortSt} {lo a nrem : Nat} {Q : Option (Option Nat) × Nat → SortSt → Prop} (hL : jt prog w A E s kd O key a₀) (hn : lo + nrem ≤ a₀.size) (ha : 1 ≤ a) (han : a ≤ nrem) (hB : SB kd a₀ st)
  (hs : o3 key (arrOf st) lo (lo + a))
  (h : ∀ n, a ≤ n → n ≤ nrem → o3 key (arrOf st) lo (lo + n) → (n = nrem ∨ O.klt (tk key (arrOf st) (lo + n)) (tk key (arrOf st) (lo + n - 1))) → Q (none, n) st) :
  wpS (model prog w) A E s (rW lo a nrem) Q st := by
 unfold rW
 refine wpS_forRange (I := fun x c st' => st' = st ∧ c = (none, x) ∧ o3 key (arrOf st) lo (lo + x)) ?step ?fin ⟨rfl, rfl, hs⟩
 case fin =>
  rintro c st' ⟨rfl, rfl, hs'⟩
  rw [show max a nrem = nrem by exact Nat.max_eq_right han] at hs' ⊢
  exact h nrem han (Nat.le_refl _) hs' (.inl rfl)
 case step =>
  rintro x c st' hax hxn ⟨rfl, rfl, hs'⟩
  dsimp only
  refine dN hL hB (by exact jB fun hg => lN [lo, nrem, (a₀.size), x] 0xe40182538c2629001 rfl hn hxn hg) (by exact jB fun hg => lN [lo, nrem, (a₀.size), x, (lo + x - 1)] 0x10609c8040c2538c2629001 rfl hn hxn (bj (bw fun hg => lN [lo, a, x] 0x8426200613142508421 rfl ha hax hg)) hg) ?_
  cases hless : O.blt (tk key (arrOf st') (lo + x)) (tk key (arrOf st') (lo + x - 1))
  case true =>
   simp only [if_true]
   exact wpS_pure (h x hax (by exact Nat.le_of_lt hxn) hs' (.inr hless))
  case false =>
   simp only [Bool.false_eq_true, if_false]
   refine wpS_pure ⟨rfl, rfl, fun i j hi hij hj => ?_⟩
   by_cases hjx : j < lo + x
   ·exact hs' i j hi hij hjx
   ·have hj' : j = lo + x := by exact Nat.le_antisymm (bw fun hg => lN [lo, x, j] 0x6290030946401861 rfl hj hg) (bw fun hg => lN [lo, x, j] 0x148030c2629001 rfl (Nat.le_of_not_lt hjx) hg)
    subst hj'
    by_cases hi' : i = lo + x
    ·subst hi'; exact KeyOrd.kle_refl _
    ·exact KeyOrd.kle_trans (hs' i (lo + x - 1) hi (by exact bw fun hg => Or.elim (Nat.lt_or_gt_of_ne hi') (fun hs0 => lN [lo, x, i, (lo + x - 1)] 0x29006184c7184e329001 rfl (a9 (lo + x) (1)) hg hs0) (fun hs0 => lN [lo, x, i] 0x18a400c25200c1 rfl hij hs0)) (by exact jB fun hg => lN [lo, x, (lo + x - 1)] 0x18a4004a401861 rfl (bj (bw fun hg => lN [lo, a, x] 0x8426200613142508421 rfl ha hax hg)) hg)) hless
noncomputable def RunPost (kd : SortKind) (O : KeyOrd) (key : Keyed → O.α) (a₀ : Array Keyed) (st : SortSt) (lo nrem : Nat) (Q : Option Nat → SortSt → Prop) : Prop :=
 ∀ m st', SB kd a₀ st' → Kept lo st st' → 1 ≤ m → m ≤ nrem → o3 key (arrOf st') lo (lo + m) → Q (some m) st'
theorem RunPost.step {st st₁ : SortSt} {lo nrem : Nat} {Q : Option Nat → SortSt → Prop} (h : RunPost kd O key a₀ st lo nrem Q) (hK : Kept lo st st₁) : RunPost kd O key a₀ st₁ lo nrem Q :=
 fun m st' hB hK' => h m st' hB (hK.trans hK')
theorem qp {st : SortSt} {lo n nrem : Nat} {Q : Option Nat → SortSt → Prop} (hL : jt prog w A E s kd O key a₀) (hn : lo + nrem ≤ a₀.size) (h1 : 1 ≤ n) (hnn : n ≤ nrem) (hB : SB kd a₀ st)
  (hs : vE key (arrOf st) lo (lo + n)) (h : RunPost kd O key a₀ st lo nrem Q) :
  wpS (model prog w) A E s (rG lo n nrem) Q st := by
 unfold rG
 have hsz : lo + n ≤ (arrOf st).size := by rw [hB.size]; exact bw fun hg => lN [lo, nrem, (a₀.size), n] 0xe40186129c2629001 rfl hn hnn hg
 refine wpS_bind (kq ?_)
 have hB' : SB kd a₀ (setArr st (mirror (arrOf st) lo (lo + n) ((lo + n - lo) / 2))) := hB.setArr (mirror_perm _ _ _ _)
 refine wpS_bind (qu hL hn h1 hnn hB' ?_ fun m hm1 hm2 hsm _ => wpS_pure (h m _ hB' (c7 hsz (Nat.le_refl _)) (by exact Nat.le_trans h1 hm1) hm2 hsm))
 intro i j hi hij hj
 show O.kle (tk key (mirror (arrOf st) lo (lo + n) ((lo + n - lo) / 2)) i) (tk key (mirror (arrOf st) lo (lo + n) ((lo + n - lo) / 2)) j)
 rw [gz hsz, gz hsz, if_pos (by exact And.intro (bw fun hg => lN [lo, i] 0x10a309481 rfl hi hg) (jB fun hg => lN [lo, n, i, j] 0xc520025200e309cc1 rfl hij hj hg)), if_pos (by exact And.intro (bw fun hg => lN [lo, i, j] 0x86184c509481 rfl hi hij hg) (jB fun hg => lN [lo, n, j] 0x18a4004a401861 rfl hj hg))]
 exact hs _ _ (by exact bw fun hg => lN [lo, n, j, (lo + (lo + n) - 1 - j), (lo + (lo + n) - 1)] 0x10e30a06520080098e0404a401861 rfl hj (a9 (lo + (lo + n) - 1) (j)) (a9 (lo + (lo + n)) (1)) hg) (by exact bw fun hg => lN [i, j, (lo + (lo + n) - 1 - j), (lo + (lo + n) - 1 - i), (lo + (lo + n) - 1)] 0x638c2438101414c009481 rfl hij (bj (bw fun hg => lN [lo, n, j, (lo + (lo + n) - 1)] 0xc7184e329004004a401861 rfl hj (a9 (lo + (lo + n)) (1)) hg)) (a9 (lo + (lo + n) - 1) (i)) hg) (by exact jB fun hg => lN [lo, n, i, (lo + (lo + n) - 1 - i), (lo + (lo + n) - 1)] 0x7290012900402061418e009881 rfl hi (bj (bw fun hg => lN [lo, n, i, j, (lo + (lo + n) - 1)] 0x640c281948020025200e309cc1 rfl hij hj (a9 (lo + (lo + n)) (1)) hg)) (bj (bw fun hg => lN [lo, n] 0x4212900400c2508421 rfl h1 hg)) hg)
theorem sg {st : SortSt} {lo n nrem : Nat} {Q : Option (Option Nat) × Nat × Nat → SortSt → Prop} (hL : jt prog w A E s kd O key a₀) (hn : lo + nrem ≤ a₀.size) (h1 : 1 ≤ n) (hnn : n ≤ nrem) (hB : SB kd a₀ st)
  (hs : vE key (arrOf st) lo (lo + n))
  (h : ∀ m neq st', SB kd a₀ st' → Kept lo st st' → n ≤ m → m ≤ nrem → vE key (arrOf st') lo (lo + m) → neq + 1 ≤ m →
   (∀ i, lo + m - (neq + 1) ≤ i → i < lo + m → tk key (arrOf st') i = tk key (arrOf st') (lo + m - 1)) → Q (none, m, neq) st') :
  wpS (model prog w) A E s (oJ lo n nrem) Q st := by
 unfold oJ
 refine wpS_forRange (I := fun x c st' => ∃ neq, c = (none, x, neq) ∧ SB kd a₀ st' ∧ Kept lo st st' ∧ vE key (arrOf st') lo (lo + x) ∧ neq + 1 ≤ x ∧
   (∀ i, lo + x - (neq + 1) ≤ i → i < lo + x → tk key (arrOf st') i = tk key (arrOf st') (lo + x - 1))) ?step ?fin
   ⟨0, rfl, hB, Kept.refl, hs, by exact h1, fun i h1 h2 => by congr 1; exact Nat.le_antisymm (bw fun hg => lN [lo, n, (lo + n - (0 + 1)), i] 0x1cc308023300a4004a401c61 rfl h2 (a9 (lo + n) (0 + 1)) hg) (bw fun hg => lN [(lo + n - (0 + 1)), i] 0x10a309481 rfl h1 hg)⟩
 case fin =>
  rintro c st' ⟨neq, rfl, hB', hK, hs', hq, he⟩
  rw [show max n nrem = nrem by exact Nat.max_eq_right hnn] at hs' hq he ⊢
  exact h nrem neq st' hB' hK hnn (Nat.le_refl _) hs' hq he
 case step =>
  rintro x c st' hax hxn ⟨neq, rfl, hB', hK, hs', hq, he⟩
  dsimp only
  have hsz : lo + x ≤ (arrOf st').size := by rw [hB'.size]; exact bw fun hg => lN [lo, nrem, (a₀.size), x] 0x1c8030c2538c2629001 rfl hn hxn hg
  refine dN hL hB' (by exact jB fun hg => lN [lo, nrem, (a₀.size), x] 0xe40182538c2629001 rfl hn hxn hg) (by exact jB fun hg => lN [lo, nrem, (a₀.size), x, (lo + x - 1)] 0x10609c8040c2538c2629001 rfl hn hxn (bj (bw fun hg => lN [lo, n, x] 0x8426200613142508421 rfl h1 hax hg)) hg) ?_
  cases hless : O.blt (tk key (arrOf st') (lo + x)) (tk key (arrOf st') (lo + x - 1))
  case true =>
   simp only [if_true]
   have step1 : ∀ xs : Array Keyed, (∀ k, tk key xs k = tk key (arrOf st') k) → vE key xs lo (lo + (x + 1)) := by
    intro xs hk i j hi hij hj
    rw [hk, hk]
    by_cases hjx : j < lo + x
    ·exact hs' i j hi hij hjx
    ·have hj' : j = lo + x := by exact Nat.le_antisymm (bw fun hg => lN [lo, x, j] 0x6290030946401861 rfl hj hg) (bw fun hg => lN [lo, x, j] 0x148030c2629001 rfl (Nat.le_of_not_lt hjx) hg)
     subst hj'
     by_cases hi' : i = lo + x
     ·subst hi'; exact KeyOrd.kle_refl _
     ·exact KeyOrd.kle_trans (KeyOrd.kle_of_klt hless) (hs' i (lo + x - 1) hi (by exact bw fun hg => Or.elim (Nat.lt_or_gt_of_ne hi') (fun hs0 => lN [lo, x, i, (lo + x - 1)] 0x29006184c7184e329001 rfl (a9 (lo + x) (1)) hg hs0) (fun hs0 => lN [lo, x, i] 0x18a400c25200c1 rfl hij hs0)) (by exact jB fun hg => lN [lo, x, (lo + x - 1)] 0x18a4004a401861 rfl (bj (bw fun hg => lN [lo, n, x] 0x8426200613142508421 rfl h1 hax hg)) hg))
   by_cases hneq : neq > 0
   ·rw [if_pos hneq]
    refine wpS_bind (kq (wpS_pure ⟨0, rfl, hB'.setArr (mirror_perm _ _ _ _), hK.trans (c7 hsz (by exact bw fun hg => lN [lo, x, neq, (lo + x - (neq + 1))] 0x21c6130ce02900129861 rfl hq (a9 (lo + x) (neq + 1)) hg)), step1 _ (bO hsz he), by exact Nat.succ_pos _, fun i h1 h2 => by congr 1; exact Nat.le_antisymm (bw fun hg => lN [lo, x, (lo + (x + 1) - (0 + 1)), i] 0x730c2008cc028c800946401c61 rfl h2 (a9 (lo + (x + 1)) (0 + 1)) hg) (bw fun hg => lN [(lo + (x + 1) - (0 + 1)), i] 0x10a309481 rfl h1 hg)⟩))
   ·rw [if_neg hneq]
    exact wpS_pure ⟨0, rfl, hB', hK, step1 _ (fun _ => rfl), by exact Nat.succ_pos _, fun i h1 h2 => by congr 1; exact Nat.le_antisymm (bw fun hg => lN [lo, x, (lo + (x + 1) - (0 + 1)), i] 0x730c2008cc028c800946401c61 rfl h2 (a9 (lo + (x + 1)) (0 + 1)) hg) (bw fun hg => lN [(lo + (x + 1) - (0 + 1)), i] 0x10a309481 rfl h1 hg)⟩
  case false =>
   simp only [Bool.false_eq_true, if_false]
   refine dN hL hB' (by exact jB fun hg => lN [lo, nrem, (a₀.size), x, (lo + x - 1)] 0x10609c8040c2538c2629001 rfl hn hxn (bj (bw fun hg => lN [lo, n, x] 0x8426200613142508421 rfl h1 hax hg)) hg) (by exact jB fun hg => lN [lo, nrem, (a₀.size), x] 0xe40182538c2629001 rfl hn hxn hg) ?_
   cases hlarger : O.blt (tk key (arrOf st') (lo + x - 1)) (tk key (arrOf st') (lo + x))
   case true =>
    simp only [if_true]
    exact wpS_pure (h x neq st' hB' hK hax (by exact Nat.le_of_lt hxn) hs' hq he)
   case false =>
    simp only [Bool.false_eq_true, if_false]
    have heqx : tk key (arrOf st') (lo + x) = tk key (arrOf st') (lo + x - 1) := KeyOrd.kle_antisymm hlarger hless
    refine wpS_pure ⟨neq + 1, rfl, hB', hK, fun i j hi hij hj => ?_, by exact Nat.lt_succ_of_le hq, fun i h1 h2 => ?_⟩
    ·by_cases hjx : j < lo + x
     ·exact hs' i j hi hij hjx
     ·have hj' : j = lo + x := by exact Nat.le_antisymm (bw fun hg => lN [lo, x, j] 0x6290030946401861 rfl hj hg) (bw fun hg => lN [lo, x, j] 0x148030c2629001 rfl (Nat.le_of_not_lt hjx) hg)
      subst hj'
      by_cases hi' : i = lo + x
      ·subst hi'; exact KeyOrd.kle_refl _
      ·rw [heqx]; exact hs' i (lo + x - 1) hi (by exact bw fun hg => Or.elim (Nat.lt_or_gt_of_ne hi') (fun hs0 => lN [lo, x, i, (lo + x - 1)] 0x29006184c7184e329001 rfl (a9 (lo + x) (1)) hg hs0) (fun hs0 => lN [lo, x, i] 0x18a400c25200c1 rfl hij hs0)) (by exact jB fun hg => lN [lo, x, (lo + x - 1)] 0x18a4004a401861 rfl (bj (bw fun hg => lN [lo, n, x] 0x8426200613142508421 rfl h1 hax hg)) hg)
    ·rw [show lo + (x + 1) - 1 = lo + x by exact rfl]
     by_cases hix : i = lo + x
     ·subst hix; rfl
     ·rw [heqx]; exact he i (by exact bw fun hg => lN [lo, x, neq, (lo + (x + 1) - (neq + 1 + 1)), i, (lo + x - (neq + 1))] 0x940c25200c34802618ce028c800a0e1 rfl h1 (a9 (lo + (x + 1)) (neq + 1 + 1)) (bj (bw fun hg => lN [lo, x, neq] 0x18652006129861 rfl hq hg)) hg) (by exact jB fun hg => Or.elim (Nat.lt_or_gt_of_ne hix) (fun hs0 => lN [lo, x, i] 0x148030c2629001 rfl hg hs0) (fun hs0 => lN [lo, x, i] 0x6290030946401861 rfl h2 hs0))
theorem oj {st : SortSt} {lo n nrem : Nat} {Q : Option Nat → SortSt → Prop} (hL : jt prog w A E s kd O key a₀) (hn : lo + nrem ≤ a₀.size) (hnn : n + 1 ≤ nrem) (hB : SB kd a₀ st)
  (hs : vE key (arrOf st) lo (lo + (n + 1))) (h : RunPost kd O key a₀ st lo nrem Q) :
  wpS (model prog w) A E s (mr lo n nrem) Q st := by
 unfold mr
 refine lE ?_
 refine wpS_bind (sg hL hn (by exact Nat.succ_pos _) hnn hB hs fun m neq st' hB' hK hm1 hm2 hs' hq he => ?_)
 dsimp only
 have hsz : lo + m ≤ (arrOf st').size := by rw [hB'.size]; exact bw fun hg => lN [lo, nrem, (a₀.size), m] 0xe40186129c2629001 rfl hn hm2 hg
 by_cases hneq : neq > 0
 ·rw [if_pos hneq]
  refine wpS_bind (kq (qp hL hn (by exact Nat.zero_lt_of_lt hm1) hm2 (hB'.setArr (mirror_perm _ _ _ _)) ?_ (h.step (hK.trans (c7 hsz (by exact bw fun hg => lN [lo, m, neq, (lo + m - (neq + 1))] 0x21c6130ce02900129861 rfl hq (a9 (lo + m) (neq + 1)) hg))))))
  intro i j hi hij hj
  show O.kle (tk key (mirror (arrOf st') _ _ _) j) (tk key (mirror (arrOf st') _ _ _) i)
  rw [bO hsz he, bO hsz he]
  exact hs' i j hi hij hj
 ·rw [if_neg hneq]
  exact qp hL hn (by exact Nat.zero_lt_of_lt hm1) hm2 hB' hs' (h.step hK)
theorem qr {st : SortSt} {lo nrem : Nat} {Q : Option Nat → SortSt → Prop} (hL : jt prog w A E s kd O key a₀) (hn : lo + nrem ≤ a₀.size) (h1 : 1 ≤ nrem) (hB : SB kd a₀ st)
  (h : RunPost kd O key a₀ st lo nrem Q) :
  wpS (model prog w) A E s (countRun' lo nrem) Q st := by
 rw [p6]
 refine wpS_bind (qu hL hn (Nat.le_refl 1) h1 hB (fun i j hi hij hj => by have : i = j := (by exact Nat.le_antisymm (bw fun hg => lN [i, j] 0x10a309481 rfl hij hg) (bw fun hg => lN [lo, i, j] 0x3146120cc309481 rfl hi hj hg)); subst this; exact KeyOrd.kle_refl _) fun n hn1 hn2 hsn hor => ?_)
 dsimp only
 by_cases hnn : n = nrem
 ·rw [if_pos (by simpa using hnn)]
  exact wpS_pure (h n st hB Kept.refl hn1 hn2 hsn)
 ·rw [if_neg (by simpa using hnn)]
  have hlt : O.klt (tk key (arrOf st) (lo + n)) (tk key (arrOf st) (lo + n - 1)) := hor.resolve_left hnn
  by_cases hgt : n > 1
  ·rw [if_pos hgt]
   refine dN hL hB (by exact jB fun hg => lN [lo, nrem, (a₀.size)] 0x4304a10842629001 rfl hn h1 hg) (by exact jB fun hg => lN [lo, nrem, (a₀.size), n, (lo + n - 1)] 0x8304e40206129c2629001 rfl hn hn2 (bj (bw fun hg => lN [lo, n] 0x2109480184a108461 rfl hgt hg)) hg) ?_
   cases hrose : O.blt (tk key (arrOf st) lo) (tk key (arrOf st) (lo + n - 1))
   case true =>
    simp only [if_true]
    exact wpS_pure (h n st hB Kept.refl hn1 hn2 hsn)
   case false =>
    simp only [Bool.false_eq_true, if_false]
    have hsz : lo + n ≤ (arrOf st).size := by rw [hB.size]; exact bw fun hg => lN [lo, nrem, (a₀.size), n] 0xe40186129c2629001 rfl hn hn2 hg
    have hall : ∀ k, lo ≤ k → k < lo + n → tk key (arrOf st) k = tk key (arrOf st) (lo + n - 1) := by
     intro k hk1 hk
     have a1 := hsn lo k (by exact Nat.le_refl _) hk1 hk
     have a2 := hsn k (lo + n - 1) hk1 (by exact bw fun hg => lN [lo, n, k, (lo + n - 1)] 0x31c6138ca4004a401861 rfl hk (a9 (lo + n) (1)) hg) (by exact jB fun hg => lN [lo, n, (lo + n - 1)] 0x18a4004a401861 rfl (bj (bw fun hg => lN [lo, n] 0x2109480184a108461 rfl hgt hg)) hg)
     exact KeyOrd.kle_antisymm a2 (KeyOrd.kle_trans hrose a1)
    refine wpS_bind (kq (oj hL hn (by exact Nat.lt_of_le_of_ne hn2 hnn) (hB.setArr (mirror_perm _ _ _ _)) ?_ (h.step (c7 hsz (Nat.le_refl _)))))
    intro i j hi hij hj
    show O.kle (tk key (mirror (arrOf st) _ _ _) j) (tk key (mirror (arrOf st) _ _ _) i)
    rw [bO hsz hall, bO hsz hall]
    by_cases hjn : j < lo + n
    ·rw [hall i (by exact hi) (by exact Nat.lt_of_le_of_lt hij hjn), hall j (by exact Nat.le_trans hi hij) hjn]; exact KeyOrd.kle_refl _
    ·have hj' : j = lo + n := by exact Nat.le_antisymm (bw fun hg => lN [lo, n, j] 0x6290030946401861 rfl hj hg) (bw fun hg => lN [lo, n, j] 0x148030c2629001 rfl (Nat.le_of_not_lt hjn) hg)
     subst hj'
     by_cases hi' : i = lo + n
     ·subst hi'; exact KeyOrd.kle_refl _
     ·rw [hall i (by exact hi) (by exact Nat.lt_of_le_of_ne hij hi')]; exact KeyOrd.kle_of_klt hlt
  ·rw [if_neg hgt]
   have hn1' : n = 1 := by omega
   subst hn1'
   refine oj hL hn (by exact Nat.lt_of_le_of_ne h1 hnn) hB ?_ h
   intro i j hi hij hj
   by_cases hi' : i = j
   ·subst hi'; exact KeyOrd.kle_refl _
   ·have hi0 : i = lo := by exact Nat.le_antisymm (bw fun hg => Or.elim hor (fun hs0 => Or.elim (Nat.lt_or_gt_of_ne hnn) (fun hs1 => lN [nrem] 0x102108c2108481 rfl (Nat.le_of_eq (Eq.symm hs0)) hs1) (fun hs1 => lN [nrem] 0x42120c2408421 rfl h1 hs1)) (fun hs0 => Or.elim (Nat.lt_or_gt_of_ne hi') (fun hs1 => lN [lo, i, j] 0x628c2520c210846401861 rfl hj hg hs1) (fun hs1 => lN [i, j] 0x10a309481 rfl hij hs1))) (bw fun hg => lN [lo, i] 0x10a309481 rfl hi hg)
    have hj1 : j = lo + 1 := by exact Nat.le_antisymm (bw fun hg => lN [lo, j] 0xa418c210846401461 rfl hj hg) (bw fun hg => Or.elim hor (fun hs0 => Or.elim (Nat.lt_or_gt_of_ne hnn) (fun hs1 => lN [nrem] 0x102108c2108481 rfl (Nat.le_of_eq (Eq.symm hs0)) hs1) (fun hs1 => lN [nrem] 0x42120c2408421 rfl h1 hs1)) (fun hs0 => Or.elim (Nat.lt_or_gt_of_ne hi') (fun hs1 => lN [lo, i, j] 0x3146120cc309481 rfl hi hg hs1) (fun hs1 => lN [i, j] 0x10a309481 rfl hij hs1)))
    subst hi0; subst hj1
    exact KeyOrd.kle_of_klt hlt
end walk
end Mine
end
noncomputable section
namespace Mine
open PySem PyProof.Rows
abbrev yC {O : KeyOrd} (key : Keyed → O.α) (l : List Keyed) : Prop := l.Pairwise fun x y => O.kle (key x) (key y)
theorem qw {O : KeyOrd} {key : Keyed → O.α} {arr : Array Keyed} {i : Nat} (hi : i < arr.size) : tk key arr i = key arr[i] := by
 unfold tk; rw [getElem?_pos arr i hi]; rfl
section walk
variable {prog : Program} {w : World} {A : Around} {E : Value → Shared → Prop} {s : Shared} {kd : SortKind} {O : KeyOrd} {key : Keyed → O.α} {a₀ : Array Keyed}
theorem oi {α : Type} {st : SortSt} {c : Prop} [Decidable c] {t e : StateT SortSt Sem α} {Q : α → SortSt → Prop} (h1 : c → wpS (model prog w) A E s t Q st) (h2 : ¬c → wpS (model prog w) A E s e Q st) :
  wpS (model prog w) A E s (if c then t else e) Q st := by
 by_cases h : c
 ·rw [if_pos h]; exact h1 h
 ·rw [if_neg h]; exact h2 h
theorem tZ {α β : Type} {st : SortSt} {c : Prop} [Decidable c] {t e : StateT SortSt Sem α} {Q : α → SortSt → Prop} {G : β → StateT SortSt Sem α} (H : β → SortSt → Prop) (x : β) (he : e = G x)
  (key : ∀ x' st', H x' st' → wpS (model prog w) A E s (G x') Q st') (h1 : c → (∀ x' st', H x' st' → wpS (model prog w) A E s (G x') Q st') → wpS (model prog w) A E s t Q st) (h2 : ¬c → H x st) :
  wpS (model prog w) A E s (if c then t else e) Q st := oi (fun h => h1 h key) (fun h => he ▸ key x st (h2 h))
structure RunAt (kd : SortKind) (key : Keyed → O.α) (a₀ : Array Keyed) (n : Nat) (st : SortSt) : Prop where
 b : SB kd a₀ st
 p : pendingOf st = #[]
 n : n = a₀.size
 s : o3 key (arrOf st) 0 a₀.size
structure RunD (kd : SortKind) (key : Keyed → O.α) (a₀ : Array Keyed) (st : SortSt) : Prop where
 b : SB kd a₀ st
 p : (pendingOf st).size ≤ 1
 s : o3 key (arrOf st) 0 a₀.size
theorem sd {st : SortSt} {Q : Unit → SortSt → Prop} (hL : jt prog w A E s kd O key a₀) (hB : SB kd a₀ st) (hP : pendingOf st = #[]) (h64 : a₀.size < 64)
  (h : ∀ st', (arrOf st').Perm a₀ → failedOf st' = none → o3 key (arrOf st') 0 a₀.size → Q () st') : wpS (model prog w) A E s sortRuns' Q st := by
 rw [sortRuns'_eq]
 refine fZ ?_
 simp only [hB.size]
 have hmr : minRun' a₀.size a₀.size 0 = a₀.size := by
  rcases Nat.eq_zero_or_pos a₀.size with h0 | h0
  ·rw [h0]; rfl
  ·obtain ⟨f, hf⟩ : ∃ f, a₀.size = f + 1 := ⟨a₀.size - 1, by omega⟩
   have : minRun' (f + 1) a₀.size 0 = a₀.size := by rw [minRun'_succ, if_pos h64]; rfl
   rwa [← hf] at this
 rw [hmr]
 refine qo (fun x c st' => (c = (none, 0) ∧ x = 0 ∧ SB kd a₀ st' ∧ pendingOf st' = #[]) ∨ (c = (none, a₀.size) ∧ RunD kd key a₀ st'))
  (fun c st' => c.1 = none ∧ RunD kd key a₀ st') ?step ?fin (.inl ⟨rfl, rfl, hB, hP⟩) ?post
 case fin =>
  rintro c st' (⟨rfl, hx, hB', hR⟩ | ⟨rfl, hD⟩)
  ·refine ⟨rfl, hB', by rw [hR]; exact Nat.zero_le _, fun i j _ h2 h3 => ?_⟩
   omega
  ·exact ⟨rfl, hD⟩
 case step =>
  rintro F hF x c st' (⟨rfl, rfl, hB', hR⟩ | ⟨rfl, hD⟩)
  ·subst hF
   refine oi (fun e1 => ?_) (fun e1 => ?_)
   ·refine wpS_pure ⟨rfl, hB', by rw [hR]; exact Nat.zero_le _, fun i j _ h2 h3 => ?_⟩
    exact absurd (Nat.lt_of_lt_of_le h3 e1) (Nat.not_lt_zero _)
   refine qt fun K hK => qr hL (by show 0 + (a₀.size - 0) ≤ _; omega) (by show 0 < a₀.size - 0; exact Nat.lt_of_not_le e1) hB' fun m st2 hB2 hK2 hm1 hm2 hs2 => ?_
   have hR2 : pendingOf st2 = #[] := by rw [hK2.pend]; exact hR
   clear hK2 hR hB'
   have hm2 : m ≤ a₀.size := hm2
   subst hK
   dsimp only
   refine' tZ (RunAt kd key a₀) m ?he ?_ (fun e2 K => ?_) (fun e2 => ?_)
   case he => apply Eq.refl
   ·clear hB2 hm1 hm2 hs2 hR2
    rintro n st3 ⟨hB3, hR3, hn, hs3⟩
    refine fZ ?_
    cases hb : (pendingOf st3).back? with
    | none =>
     refine se (wpS_pure (.inr ⟨?_, ⟨hB3.perm, hB3.kind, hB3.failed⟩, ?_, hs3⟩))
     ·rw [hn]; simp
     ·show ((pendingOf st3).push _).size ≤ 1
      rw [hR3]; exact Nat.le_refl _
    | some t => rw [hR3] at hb; cases hb
   ·refine lE ?_
    have e3 : min (a₀.size - 0) a₀.size = a₀.size := by omega
    rw [e3]
    refine wpS_bind (t0 hL (by omega) (by omega) hB2 hs2 fun st3 hB3 hK3 hs3 => ?_)
    exact K _ st3 ⟨hB3, by rw [hK3.pend]; exact hR2, rfl, by simpa using hs3⟩
   ·have e3 : m = a₀.size := Nat.le_antisymm hm2 (Nat.le_of_not_lt e2)
    refine ⟨hB2, hR2, e3, ?_⟩
    subst e3
    simpa using hs2
  ·subst hF
   refine oi (fun e1 => wpS_pure ⟨rfl, hD⟩) (fun e1 => absurd (Nat.le_refl _) e1)
 case post =>
  rintro K hK ⟨c1, c2⟩ st' ⟨e, hD⟩
  cases e
  subst hK
  refine qo (fun x c st'' => c = (none, ()) ∧ RunD kd key a₀ st'') (fun c st'' => c = (none, ()) ∧ RunD kd key a₀ st'') ?cstep (fun _ _ h => h) ⟨rfl, hD⟩ ?cpost
  case cpost =>
   rintro K hK c st'' ⟨rfl, hD⟩
   subst hK
   exact wpS_pure (h _ hD.b.perm hD.b.failed hD.s)
  case cstep =>
   rintro F hF x c st'' ⟨rfl, hD⟩
   subst hF
   refine fZ ?_
   exact oi (fun e1 => wpS_pure ⟨rfl, hD⟩) (fun e1 => absurd hD.p e1)
end walk
end Mine
end
noncomputable section
namespace Mine
open PySem PyProof.Rows
section
variable {prog : Program} {w : World} {A : Around} {E : Value → Shared → Prop} {s : Shared} {kd : SortKind} {O : KeyOrd} {key : Keyed → O.α}
theorem si {arr : Array Keyed} (h : o3 key arr 0 arr.size) : yC key arr.toList := by
 refine List.pairwise_iff_getElem.mpr fun i j hi hj hij => ?_
 rw [Array.length_toList] at hi hj
 have := h i j (Nat.zero_le _) (Nat.le_of_lt hij) hj
 rw [qw hi, qw hj] at this
 simpa using this
theorem oh {a : Addr} {vs : List Value} {n : Nat} {P : Fin → Shared → Prop} (ho : s.heap.get? a = some (seqObj "list" vs.toArray n)) (h64 : vs.length < 64)
  (hkk : 2 ≤ vs.length → ∀ s' : Shared, (∀ b o, b ≠ a → s.heap.get? b = some o → s'.heap.get? b = some o) → ∀ Q : SortKind → Shared → Prop, Q kd s' → wpAny (model prog w) A (keyKind' vs.toArray) Q E s')
  (hL : ∀ s' : Shared, (∀ b o, b ≠ a → s.heap.get? b = some o → s'.heap.get? b = some o) → jt prog w A E s' kd O key (pairsOf vs))
  (h : ∀ out : List Value, out.Perm vs → (out.Pairwise fun x y => O.kle (key (x, x)) (key (y, y))) → P (.done (.ret .none)) { s with heap := sortedHeap s.heap a vs out.toArray }) :
  wpAny (model prog w) A (Builtin.«list.sort» ⟨[.ref a], []⟩) P E s := by
 rw [list_sort_plain]
 have hsl : sizeLine = 16777216 := sizeLine_eq
 have hz : vs.length ≤ 16777216 := Nat.le_of_lt (Nat.lt_trans h64 (by decide))
 have ha : a < s.heap.objs.size := Heap.lt_size ho
 refine wpAny_bind (listItems_at ho rfl ?_)
 refine wpAny_bind (listUpdate_at ho rfl ?_ (hsz := by rw [List.size_toArray]; exact hz) (hsz2 := by simp))
 obtain ⟨e1, ho1⟩ : ∃ e1, (s.heap.update a (Obj.mapSeq fun _ => #[])).get? a = some (seqObj "list" #[] e1) := ⟨_, get?_update_seq ho (fun _ => #[])⟩
 refine wpAny_bind (seqEpoch_at ho1 rfl ?_)
 refine wpAny_bind (wpAny_newTuple ?_ (by rw [List.toList_toArray]; exact hz))
 refine wpAny_bind (wpAny_newList ?_)
 refine wpAny_holding ?_
 have ho6 : (((s.heap.update a (Obj.mapSeq fun _ => #[])).push (seqObj "tuple" vs.toArray 0)).push (seqObj "list" #[] 0)).get? a = some (seqObj "list" #[] e1) := by
  rw [Heap.get?_push_ne _ _ _ (by rw [size_push', Heap.size_update]; exact Nat.ne_of_lt (Nat.lt_succ_of_lt ha)), Heap.get?_push_ne _ _ _ (by rw [Heap.size_update]; exact Nat.ne_of_lt ha)]
  exact ho1
 have hkeep : ∀ b o, b ≠ a → s.heap.get? b = some o → (((s.heap.update a (Obj.mapSeq fun _ => #[])).push (seqObj "tuple" vs.toArray 0)).push (seqObj "list" #[] 0)).get? b = some o := by
  intro b o hb e
  have hlt := Heap.lt_size e
  rw [Heap.get?_push_ne _ _ _ (by rw [size_push', Heap.size_update]; exact Nat.ne_of_lt (Nat.lt_succ_of_lt hlt)), Heap.get?_push_ne _ _ _ (by rw [Heap.size_update]; exact Nat.ne_of_lt hlt), Heap.get?_update_ne _ _ _ _ hb]
  exact e
 show wpAny (model prog w) A _ P E { s with heap := ((s.heap.update a (Obj.mapSeq fun _ => #[])).push (seqObj "tuple" vs.toArray 0)).push (seqObj "list" #[] 0) }
 dsimp only
 have hsz : vs.toArray.size = vs.length := by simp
 have fin : ∀ st' : SortSt, (arrOf st').Perm (pairsOf vs) → o3 key (arrOf st') 0 (pairsOf vs).size →
   P (.done (.ret .none)) { s with heap := sortedHeap s.heap a vs ((arrOf st').map (·.2)) } := by
  intro st' hp hs
  have hl : (arrOf st').toList.Perm (vs.zip vs) := by rw [← pairsOf_toList]; exact Array.perm_iff_toList_perm.mp hp
  have hmem : ∀ p, p ∈ (arrOf st').toList → p.1 = p.2 := fun p hp' => (mem_zip_self (hl.mem_iff.mp hp')).1
  have e : ((arrOf st').map (·.2)) = ((arrOf st').toList.map (·.2)).toArray := by rw [← Array.toList_map, Array.toArray_toList]
  rw [e]
  refine h _ ?_ ?_
  ·have := hl.map (·.2)
   rwa [List.map_snd_zip (Nat.le_refl _)] at this
  ·rw [← hp.size_eq] at hs
   have hsr := si hs
   rw [List.pairwise_map]
   refine hsr.imp_of_mem fun {x y} hx hy hxy => ?_
   have ex : (x.2, x.2) = x := Prod.ext (hmem x hx).symm rfl
   have ey : (y.2, y.2) = y := Prod.ext (hmem y hy).symm rfl
   rw [ex, ey]
   exact hxy
 by_cases h2 : vs.toArray.size < 2
 ·rw [if_pos h2, if_pos h2]
  refine wpAny_bind (wpAny_pure ?_)
  rw [StateT.run_pure]
  refine wpAny_bind (wpAny_pure ?_)
  dsimp only
  refine wpAny_bind (seqEpoch_at ho6 rfl ?_)
  refine wpAny_bind (listUpdate_at ho6 rfl ?_ (hsz2 := by rw [Array.size_map]; show (pairsOf vs).size ≤ _; rw [pairsOf_size]; exact Nat.le_succ_of_le hz))
  simp only [bne_self_eq_false, Bool.false_eq_true, if_false]
  refine wpAny_pure (fin (SortSt.mk' general' (vs.toArray.zip vs.toArray) #[] 7 none) (Array.Perm.refl _) ?_)
  intro i j _ hij hj
  have : i = j := by rw [pairsOf_size] at hj; omega
  subst this; exact KeyOrd.kle_refl _
 ·rw [if_neg h2, if_neg h2]
  refine wpAny_bind (hkk (by exact Nat.le_of_not_lt h2) _ hkeep _ ?_)
  refine wpAny_bind (wpAny_mono (sd (a₀ := pairsOf vs) (st := SortSt.mk' kd (vs.toArray.zip vs.toArray) #[] 7 none)
   (Q := fun _ st' => (arrOf st').Perm (pairsOf vs) ∧ failedOf st' = none ∧ o3 key (arrOf st') 0 (pairsOf vs).size)
   (hL _ hkeep) ⟨Array.Perm.refl _, rfl, rfl⟩ rfl (by rw [pairsOf_size]; exact h64) fun st' a1 a2 a3 => ⟨a1, a2, a3⟩) ?_ fun _ _ e => e)
  rintro ⟨⟨⟩, st'⟩ s' ⟨rfl, hp, hf, hs⟩
  dsimp only
  refine wpAny_bind (seqEpoch_at ho6 rfl ?_)
  refine wpAny_bind (listUpdate_at ho6 rfl ?_ (hsz2 := by refine Nat.le_trans (Nat.le_of_eq ((Array.size_map ..).trans (hp.size_eq.trans (pairsOf_size _)))) ?_; exact Nat.le_succ_of_le hz))
  rw [hf]
  simp only [bne_self_eq_false, Bool.false_eq_true, if_false]
  exact wpAny_pure (fin st' hp hs)
theorem uA {κ : PyProof.Rows.KeyKind} (hO : κ.OneLt) {a₀ : Array Keyed} (h0 : KeysOf κ a₀) : jt prog w A E s oneType' κ.toKeyOrd (fun p => (κ.keyOf p.1).getD κ.dflt) a₀ := by
 intro x y hx hy Q st hk h
 obtain ⟨ax, ex⟩ := h0 x hx
 obtain ⟨ay, ey⟩ := h0 y hy
 dsimp only at h
 rw [ex, ey] at h
 rw [lt'_eq]
 refine fZ ?_
 rw [hk, keyLt'_oneType]
 refine wpS_bind (wpS_lift (wpAny_attempt (hO prog w A _ s x.1 y.1 ax ay ex ey ⟨rfl, ?_⟩)))
 exact wpS_pure h
theorem ph {a : Addr} {vs : List Value} {ss : List Str} {n : Nat} {P : Fin → Shared → Prop} (ho : s.heap.get? a = some (seqObj "list" vs.toArray n)) (h64 : vs.length < 64) (hS : StrsAre vs ss)
  (h : ∀ (out : List Value) (ss' : List Str), StrsAre out ss' → ss'.Perm ss → (ss'.Pairwise fun x y => ¬ y.cps.toList < x.cps.toList) → P (.done (.ret .none)) { s with heap := sortedHeap s.heap a vs out.toArray }) :
  wpAny (model prog w) A (Builtin.«list.sort» ⟨[.ref a], []⟩) P E s := by
 refine oh (kd := oneType') (O := PyProof.Rows.strKind.toKeyOrd) (key := fun p => (PyProof.Rows.strKind.keyOf p.1).getD PyProof.Rows.strKind.dflt) ho h64 (fun h2 s' _ Q q => ?_) (fun s' _ => uA PyProof.Rows.strKind_oneLt hS.keysOf) fun out hp hs => ?_
 ·rcases vs with _ | ⟨v₁, _ | ⟨v₂, rest⟩⟩
  ·exact absurd h2 (by decide)
  ·exact absurd h2 (Nat.lt_irrefl _)
  ·rw [keyKind_strs hS]; exact wpAny_pure q
 ·refine h out (out.map strOf) (strsAre_map out fun v hv => hS.all v (hp.mem_iff.mp hv)) ?_ ?_
  ·rw [← hS.strs]; exact hp.map _
  ·rw [List.pairwise_map]
   refine hs.imp_of_mem fun {x y} hx hy hxy => ?_
   obtain ⟨a1, t1, rfl⟩ := hS.all x (hp.mem_iff.mp hx)
   obtain ⟨a2, t2, rfl⟩ := hS.all y (hp.mem_iff.mp hy)
   have : decide (a2.cps.toList < a1.cps.toList) = false := hxy
   exact of_decide_eq_false this
end
end Mine
end
noncomputable section
namespace Mine
open PySem PySem.W PyProof.Rows PySem.Calls
abbrev rh (a b : Str) : Prop := ¬ cl b < cl a
noncomputable def qy (xs : List Str) : List Str := xs.mergeSort fun a b => !decide (cl b < cl a)
theorem pM {a b c : Str} (h1 : rh a b) (h2 : rh b c) : rh a c := fun h => by
 rcases (List.not_lt.mp h1 : cl a ≤ cl b) with _
 exact h1 (List.lt_of_le_of_lt (List.not_lt.mp h2) h)
theorem pN (a b : Str) : rh a b ∨ rh b a := by
 by_cases h : cl b < cl a
 ·exact .inr fun h' => List.lt_irrefl _ (List.lt_trans h h')
 ·exact .inl h
theorem rg {a b : Str} (h1 : rh a b) (h2 : rh b a) : a = b := fL (List.le_antisymm (List.not_lt.mp h1) (List.not_lt.mp h2))
theorem iL (xs : List Str) : (qy xs).Perm xs := List.mergeSort_perm _ _
theorem ni (xs : List Str) : (qy xs).Pairwise rh := by
 have := List.pairwise_mergeSort (le := fun a b : Str => !decide (cl b < cl a)) (fun a b c h1 h2 => by simp only [Bool.not_eq_true', decide_eq_false_iff_not] at *; exact pM h1 h2) (fun a b => by
  rcases pN a b with h | h
  ·simp [h]
  ·simp [h]) xs
 exact this.imp fun h => by simpa using h
theorem gR : ∀ {a b : List Str}, a.Perm b → a.Pairwise rh → b.Pairwise rh → a = b
 | [], _, p, _, _ => p.nil_eq
 | x :: r, b, p, ha, hb => by
  cases b with
  | nil => exact absurd p.length_eq (by simp)
  | cons y t =>
   have hx : x ∈ y :: t := p.mem_iff.mp (.head _)
   have hy : y ∈ x :: r := p.mem_iff.mpr (.head _)
   have e : x = y := by
    rcases List.mem_cons.mp hx with h | h
    ·exact h
    ·rcases List.mem_cons.mp hy with h' | h'
     ·exact h'.symm
     ·exact rg ((List.pairwise_cons.mp ha).1 y h') ((List.pairwise_cons.mp hb).1 x h)
   subst e
   rw [gR (List.Perm.cons_inv p) (List.pairwise_cons.mp ha).2 (List.pairwise_cons.mp hb).2]
theorem t6 {xs ys : List Str} (p : ys.Perm xs) (h : ys.Pairwise rh) : ys = qy xs := gR (p.trans (iL xs).symm) h (ni xs)
theorem sh {xs : List Str} {z : Str} : z ∈ qy xs ↔ z ∈ xs := (iL xs).mem_iff
theorem oo (xs : List Str) : (qy xs).length = xs.length := (iL xs).length_eq
section
variable {C : Cx} {p : Program} {sc : Scope} {k : Nat}
theorem iK {aS : Addr} {h : Heap} : ∀ {ys : List Str} {ws : List Value}, VRels aS h (ys.map .str) ws → StrsAre ws ys
 | [], _, r => by rw [r.inv0]; exact .nil
 | y :: ys, _, r => by
  obtain ⟨w, ws, rfl, h1, r2⟩ := r.invC
  obtain ⟨t, rfl⟩ := h1.invStr
  exact .cons y t (iK r2)
theorem dP {aS : Addr} {h : Heap} {ys : List Str} {ws : List Value} (x : StrsAre ws ys) : VRels aS h (ys.map .str) ws := by
 induction x with
 | nil => exact .nil
 | cons y t r ih => exact .cons (.str y t) ih
theorem iN {A : Around} {s : Shared} {σ : ah} {r : Value} {Q : V → ah → Prop} {P : Value → Shared → Prop} {E : Value → Shared → Prop} {ks : List Str} (ao : AOk C A k) (R : RelG C σ s)
  (hcol : ∀ R' : List Value → Shared → Prop, (∀ (h' : Heap) (tk : Nat) (d : Drawn) (vs : List Value) (ks' : List Str), (∀ b o, s.heap.get? b = some o → h'.get? b = some o) → s.heap.objs.size ≤ h'.objs.size → StrsAre vs ks' → ks'.Perm ks → R' vs { s with heap := h', toks := tk, drawn := d }) →
   wpAny (model C.prog C.w) A.in1 (collect r) R' E s) (h64 : ks.length < 64)
  (q : cR ((qy ks).map .str) σ Q) (hP : tA C σ s Q P) : wpAny (model C.prog C.w) A (PySem.call (.builtin "sorted") [r]) P E s := by
 have hz : ks.length ≤ 16777216 := Nat.le_of_lt (Nat.lt_trans h64 (by decide))
 refine call_function_entry kind_sorted plain_sorted entry_sorted (args_sorted1 _) ?_
 unfold Builtin.«sorted»
 refine wpAny_bind (m := checkCount "sorted" 1 1 _) (wpAny_pure ?_)
 refine wpAny_bind (hcol _ fun h' tk d vs ks' hk hsz hs hp => ?_)
 have hvl : vs.length = ks.length := by rw [← hp.length_eq, ← hs.strs, List.length_map]
 refine wpAny_bind (wpAny_newList ?_ (by rw [hvl, sizeLine_eq]; exact hz))
 have hoL : (h'.push (seqObj "list" vs.toArray 0)).get? h'.objs.size = some (seqObj "list" vs.toArray 0) := Heap.get?_push_size _ rfl
 refine wpAny_bind (wpAny_holding (wpAny_call_entry slot_list_sort ⟨_, hoL, rfl⟩ entry_list_sort (ph hoL (by rw [hvl]; exact h64) hs fun out ss' h1 h2 h3 => ⟨_, rfl, ?_⟩) (args_list_sort _)))
 refine wpAny_pure ⟨_, rfl, ?_⟩
 have hsr : ss' = qy ks := t6 (h2.trans hp) h3
 subst hsr
 obtain ⟨e, he⟩ := sortedHeap_at (out := out.toArray) hoL
 have hk2 : ∀ b o, s.heap.get? b = some o → (sortedHeap (h'.push (seqObj "list" vs.toArray 0)) h'.objs.size vs out.toArray).get? b = some o := fun b o eb => by
  have hb := Heap.lt_size (hk b o eb)
  rw [sortedHeap_old (Nat.ne_of_lt hb) (by rw [Heap.size_push]; exact Nat.lt_succ_of_lt hb)]
  exact Heap.get?_push_of_some _ (hk b o eb)
 have hn : s.heap.get? h'.objs.size = Option.none := aA hsz
 have hsz2 : s.heap.objs.size ≤ (sortedHeap (h'.push (seqObj "list" vs.toArray 0)) h'.objs.size vs out.toArray).objs.size := Nat.le_trans hsz (Nat.le_of_lt (Heap.lt_size he))
 exact hP (.ref h'.objs.size) (.ref h'.objs.size) (aY σ h'.objs.size (.list ((qy ks).map .str))) _ (.ref _)
  ((R.draw d).add (tk := tk) (s := { s with drawn := d }) hk2 hn ⟨by rw [List.length_map, oo]; exact hz, out, ⟨e, he⟩, dP h1⟩) (.add hk2 hsz2 hsz) (q _ (R.freshNone hn))
theorem gM : bootBuiltins (Str.ofString "sorted") = some (.builtin "sorted") := by decide +kernel
theorem pO {s : Shared} {kvs : List (Str × V)} {kws : List (Str × Value)} {vs : List Value} (h2 : PRel C.aS s.heap kvs kws) (hl : vs.length = kws.length) (hv : ∀ (j : Nat) (v : Value), vs[j]? = some v → ∃ k x, kws[j]? = some (k, x) ∧ (PySem.strKind C.prog C.w).is k v = true) : StrsAre vs (kvs.map (·.1)) := by
 rw [h2.keys]
 clear h2
 induction kws generalizing vs with
 | nil => have : vs = [] := List.length_eq_zero_iff.mp (by simpa using hl); subst this; exact .nil
 | cons q kws ih =>
  match vs, hl with
  | v :: vs, hl =>
   obtain ⟨ky, x, e1, e2⟩ := hv 0 v rfl
   simp at e1
   subst e1
   obtain ⟨t, rfl⟩ := Value.isStrOf_shape e2
   exact .cons ky t (ih (by simpa using hl) fun j v e => hv (j + 1) v (by simpa using e))
noncomputable def nV (T : ET) : ET := fun m σ Q => T m σ fun v σ₁ => ∃ a kvs ep, v = .ref a ∧ σ₁ a = some (.dict kvs ep) ∧ kvs.length < 64 ∧ cR ((qy (kvs.map (·.1))).map .str) σ₁ Q
theorem jH (G : Gl C p) (hpl : C.held = Option.none) {np pos ap cp : Pos} {o : Expr} {T : ET} (hn : sc.names.lookup (Str.ofString "sorted") = some .globalImplicit) (ho : HE C sc k o T)
  (hbase : ∀ env, attributeBase o (Str.ofString "keys") env (eval o env) = eval o env) (hline : (ap.endLine == cp.line) = true) :
  HE C sc k (.Call (.Name (Str.ofString "sorted") np) [.Call (.Attribute o (Str.ofString "keys") ap) [] [] cp] [] pos) (nV T) := by
 refine ⟨?_⟩; intro env A s m σ Q P E en ao R F q hP
 have O := G.ok
 refine wpAny_Call_NameR (Calls.Name_function_global en.k (en.of hn) (Calls.loadGlobal_builtin (mg := C.mg) (mb := C.mb) (by rw [en.globals]; exact O.g.keeps R.base) (G.free _ (by decide)) (by rw [en.builtins]; exact O.b.keeps R.base) (G.blt gM (by decide)) ?_) rfl)
 refine Calls.callWith_builtin (bh rfl) (bn rfl ?_)
 show wpAny _ A (spliced ((false, eval (.Call (.Attribute o (Str.ofString "keys") ap) [] [] cp) env) :: backTo pos (starEach [] env))) _ E s
 refine Calls.spliced_cons ?_
 refine wpAny_Call_method (T := "dict") (id := "dict.keys") (hbase env) rfl hline _root_.PySem.F.plainAttrs_dict _root_.PySem.F.slot_dict_keys _root_.PySem.F.type_dict_keys ?_
 refine ho.run env A s m σ _ _ E en ao R F q fun v w σ₁ s₁ hv R₁ S₁ q₁ => ?_
 obtain ⟨a, kvs, ep, rfl, hx, h64, q₁⟩ := q₁
 cases hv
 obtain ⟨hz, kws, h1, h2⟩ := R₁.view _ _ hx
 refine ⟨h1.dictOf.typeIs, h1.dictOf.mapOf.noDict, ?_⟩
 show wpAny _ _ (callWith cp (.builtin "dict.keys") [.ref a] [] []) _ E s₁
 refine method_meetsIn _root_.PySem.F.slot_dict_keys _root_.PySem.F.entry_dict_keys rfl (PySem.evalArgs_none ⟨rfl, h1.dictOf.typeIs, _root_.PySem.F.args_dict_keys_1 _, _, kdl_meets_keys (PySem.strKind C.prog C.w) a (O.noMods (R₁.apart a (by rw [hx]; simp))), ⟨kws, h1.dictOf⟩, ?_⟩)
 refine Calls.spliced_nil ?_
 show wpAny _ A (PySem.call (.builtin "sorted") [.ref s₁.heap.objs.size]) P E _
 have hl := h2.length
 have R₂ : RelG C σ₁ { s₁ with heap := s₁.heap.push { cls := .type "dict_keys", data := .fields #[.ref a] } } := R₁.grow (tk := s₁.toks) aV
 refine iN (ks := kvs.map (·.1)) ao R₂ (fun R' hR => be (kdu_collect (kdl_keys (knd := PySem.strKind C.prog C.w) (kvs := kws) (ep := ep) (r := s₁.heap.objs.size) (d := a)) (by show A.handled = _; exact ao.none hpl)
  ⟨⟨_, Heap.get?_push_size _ rfl, rfl, rfl⟩, h1.push _⟩ (kdl_size (by omega)) fun h' tk acc hk hacc => ?_)) (by rw [List.length_map]; exact h64) q₁ fun v w σ' s' hv' R' S' q' => hP v w σ' s' hv' R' ((S₁.trans .push).trans S') q'
 intro hsz
 exact hR h' tk s₁.drawn acc.toList _ hk hsz (pO h2 (by rw [Array.length_toList]; exact hacc.1) fun j v e => hacc.2 j v (by rw [← Array.getElem?_toList]; exact e)) (List.Perm.refl _)
end
end Mine
end
noncomputable section
namespace Mine
open PySem PySem.W PyProof.Rows PySem.Calls
section
variable {C : Cx} {p : Program} {sc : Scope} {k : Nat}
noncomputable def eR : bK := fun vs σ Q => onR vs fun a => ∃ kvs ep, σ a = some (.dict kvs ep) ∧ sG kvs σ Q
theorem qY (O : C.Ok) : mY C k (fun ws => PySem.call (.type "dict") ws) eR := by
 intro A s σ vs ws Q P E ao R hv q hP
 replace q := onR.elim q
 obtain ⟨a, rfl, q⟩ := q
 ·obtain ⟨wa, rfl, h1⟩ := hv.inv1
  cases h1
  obtain ⟨kvs, ep, hx, q⟩ := q
  obtain ⟨hz, kws, h1, h2⟩ := R.view _ _ hx
  have hl := h2.length
  refine be (kt_call_dict (knd := PySem.strKind C.prog C.w) (O.noMods (R.apart a (by rw [hx]; simp))) h1.dictOf (by rw [sizeLine_eq]; omega) fun h' hd' hs' => ?_)
  intro hsz
  obtain ⟨ep', hat⟩ := hd'.dictAt
  have hn := bC s.heap
  have hk : ∀ b o, s.heap.get? b = some o → h'.get? b = some o := fun b o e => hs'.extBut b o (Nat.ne_of_lt (Heap.lt_size e)) (Heap.get?_push_of_some _ e)
  exact hP _ _ (aY σ s.heap.objs.size (.dict kvs ep')) _ (.ref _) (R.add (tk := s.toks) hk hn ⟨hz, kws, hat, h2.keep fun b o e _ => hk b o e⟩) (.add hk hsz (Nat.le_refl _)) (q _ ep' (R.freshNone hn))
theorem jw (G : Gl C p) {np pos : Pos} {es : List Expr} {L : LT} (hn : sc.names.lookup (Str.ofString "dict") = some .globalImplicit) (hl : HL C sc k es L) (hp : aJ es = true) : HE C sc k (.Call (.Name (Str.ofString "dict") np) es [] pos) (aE eR L) :=
 m8 G.ok (qY G.ok) hn (G.free _ (by decide)) (G.blt sY (by decide)) rfl hl hp
noncomputable def cz : bK := fun vs σ Q => onRS vs fun a x => ∃ kvs ep, σ a = some (.dict kvs ep) ∧ Q ((cA kvs x).getD .none) σ
theorem uy (O : C.Ok) : mY C k (fun ws => PySem.call (.builtin "dict.get") ws) cz := by
 intro A s σ vs ws Q P E ao R hv q hP
 replace q := onRS.elim q
 obtain ⟨a, x, rfl, q⟩ := q
 ·obtain ⟨wa, wb, rfl, h1, h2⟩ := hv.inv2
  cases h1; cases h2 with | str _ t =>
  obtain ⟨kvs, ep, hx, q⟩ := q
  obtain ⟨hz, kws, h1, h2⟩ := R.view _ _ hx
  refine call_meetsIn _root_.PySem.F.slot_dict_get h1.dictOf.typeIs _root_.PySem.F.entry_dict_get (_root_.PySem.F.args_dict_get_2 _ _) (meets_dict_get (PySem.strKind C.prog C.w) a (gH x t) (O.noMods (R.apart a (by rw [hx]; simp)))) ⟨_, h1.dictOf.mapOf, ?_⟩
  cases hg : cA kvs x with
  | none =>
   rw [hg] at q
   have e : valueAt kws x = Option.none := by
    have : (valueAt kws x).isSome = false := by rw [← h2.none (k := x), hg]; rfl
    cases e : valueAt kws x with
    | none => rfl
    | some _ => rw [e] at this; cases this
   show P ((valueAt kws x).getD .none) _
   rw [e]
   exact hP _ _ σ _ .none (R.tok _) Step.refl q
  | some v =>
   rw [hg] at q
   obtain ⟨w, e1, e2⟩ := h2.find hg
   show P ((valueAt kws x).getD .none) _
   rw [e1]
   exact hP _ _ σ _ e2 (R.tok _) Step.refl q
theorem bW (G : Gl C p) {o : Expr} {apos pos : Pos} {es : List Expr} {To : ET} {L : LT} (ho : HE C sc k o To) (hl : HL C sc k es L) (hp : aJ es = true)
  (hbase : ∀ env, attributeBase o (Str.ofString "get") env (eval o env) = eval o env) (hline : (apos.endLine == pos.line) = true) (hfew : es.length < 30) : HE C sc k (.Call (.Attribute o (Str.ofString "get") apos) es [] pos) (bg bz cz To L) :=
 fe jI F.plainAttrs_dict F.slot_dict_get F.type_dict_get (uy G.ok) ho hl hp hbase hline hfew
noncomputable def dY : O2 := fun i o σ Q => isS i fun x => isR o fun a => ∃ kvs ep, σ a = some (.dict kvs ep) ∧ Q (.bool (!(cA kvs x).isSome)) σ
theorem gF (O : C.Ok) : fT C k (compareOp .NotIn) dY := by
 intro A s σ a b wa wb Q P E ao R va vb q hP
 replace q := isS.elim q
 obtain ⟨x, rfl, q⟩ := q
 replace q := isR.elim q
 obtain ⟨a, rfl, q⟩ := q
 ·cases va; cases vb
  obtain ⟨kvs, ep, hx, q⟩ := q
  obtain ⟨_, kws, h1, h2⟩ := R.view _ _ hx
  refine wpAny_notIn_of (knd := PySem.strKind C.prog C.w) (gH x _) (O.noMods (R.apart a (by rw [hx]; simp))) h1.dictOf.mapOf ?_
  rw [← h2.none]
  exact hP _ _ σ _ (.bool _) (R.tok _) Step.refl q
noncomputable def lB : V → Bool
 | .none => true
 | _ => false
noncomputable def onBN (b : V) (F : Bool → Prop) (G : Prop) : Prop := match b with | .none => G | .bool y => F y | _ => False
theorem onBN.elim {b : V} {F : Bool → Prop} {G : Prop} (h : onBN b F G) : (b = .none ∧ G) ∨ ∃ y, b = .bool y ∧ F y := by
 cases b <;> first | exact .inl ⟨rfl, h⟩ | exact .inr ⟨_, rfl, h⟩ | exact False.elim h
noncomputable def dy : O2 := fun a b σ Q => onBN b (fun y => isB a fun x => Q (.bool (x != y)) σ) (Q (.bool (!lB a)) σ)
theorem q0 {h : Heap} {v : V} {w : Value} (hv : VRel C.aS h v w) : (w == Value.none) = lB v := by
 cases hv <;> rfl
theorem lS : fT C k (compareOp .IsNot) dy := by
 intro A s σ a b wa wb Q P E ao R va vb q hP
 rcases onBN.elim q with ⟨rfl, q⟩ | ⟨y, rfl, q⟩
 ·cases vb
  exact isnot_none_gen (by rw [q0 va]; exact hP _ _ σ s (.bool _) R Step.refl q)
 ·obtain ⟨x, rfl, q⟩ := isB.elim q
  cases va; cases vb
  exact isnot_bool (hP _ _ σ s (.bool _) R Step.refl q)
end
section
variable {m : bb} {σ : ah} {Q : V → ah → Prop} {R : Fl → bb → ah → Prop} {ns : List Int}
@[simp] theorem vA {T : ET} : nV T m σ Q = T m σ fun v σ₁ => ∃ a kvs ep, v = .ref a ∧ σ₁ a = some (.dict kvs ep) ∧ kvs.length < 64 ∧ cR ((qy (kvs.map (·.1))).map .str) σ₁ Q := rfl
theorem fK {a : Addr} {kvs : List (Str × V)} {ep : Nat} (h : σ a = some (.dict kvs ep)) (q : sG kvs σ Q) : eR [.ref a] σ Q := ⟨kvs, ep, h, q⟩
theorem rx {a : Addr} {kvs : List (Str × V)} {ep : Nat} {x : Str} (h : σ a = some (.dict kvs ep)) (q : Q ((cA kvs x).getD .none) σ) : cz [.ref a, .str x] σ Q := ⟨kvs, ep, h, q⟩
theorem fH {a : Addr} {kvs : List (Str × V)} {ep : Nat} {x : Str} (h : σ a = some (.dict kvs ep)) (q : Q (.bool (!(cA kvs x).isSome)) σ) : dY (.str x) (.ref a) σ Q := ⟨kvs, ep, h, q⟩
@[simp] theorem uG {v : V} : dy v .none σ Q = Q (.bool (!lB v)) σ := rfl
@[simp] theorem wg {a b : Bool} : dy (.bool a) (.bool b) σ Q = Q (.bool (a != b)) σ := rfl
end
end Mine
end
noncomputable section
namespace Mine
open PySem PySem.W PyProof.Rows PySem.Calls
abbrev cls (l : List Str) : List (List Nat) := l.map cl
abbrev ko (l : List Str) : V := .tup (l.map .str)
@[reducible] noncomputable def dM : KeyOrd where
 α := List (List Nat)
 blt a b := decide (a < b)
 irrefl a := by simpa using List.lt_irrefl a
 trans a b c h1 h2 := by simp only [decide_eq_true_eq] at *; exact List.lt_trans h1 h2
 negTrans a b c h := by
  simp only [decide_eq_true_eq] at *
  by_cases hab : a < b
  ·exact .inl hab
  ·exact .inr (List.lt_of_le_of_lt (List.not_lt.mp hab) h)
 total a b h1 h2 := by simp only [decide_eq_false_iff_not] at *; exact List.le_antisymm (List.not_lt.mp h2) (List.not_lt.mp h1)
noncomputable def jz (xs : List (List Str)) : List (List Str) := xs.mergeSort fun a b => !decide (cls b < cls a)
theorem oM : ∀ {a b : List Str}, cls a = cls b → a = b
 | [], [], _ => rfl
 | [], _ :: _, h => by simp [cls] at h
 | _ :: _, [], h => by simp [cls] at h
 | x :: a, y :: b, h => by
  simp only [cls, List.map_cons, List.cons.injEq] at h
  rw [fL h.1, oM h.2]
theorem gy (xs : List (List Str)) : (jz xs).Perm xs := List.mergeSort_perm _ _
theorem lD (xs : List (List Str)) : (jz xs).Pairwise fun a b => dM.kle (cls a) (cls b) := by
 have := List.pairwise_mergeSort (le := fun a b : List Str => !decide (cls b < cls a)) (fun a b c h1 h2 => by
  simp only [Bool.not_eq_true'] at *; exact KeyOrd.kle_trans (O := dM) h1 h2) (fun a b => by
  cases h : decide (cls b < cls a)
  ·rfl
  ·have := KeyOrd.klt_asymm (O := dM) (a := cls b) (b := cls a) h
   have h' : decide (cls a < cls b) = false := this
   rw [h']; rfl) xs
 exact this.imp fun h => by
  have h' := h
  simp only [Bool.not_eq_true'] at h'
  exact h'
theorem fY : ∀ {a b : List (List Str)}, a.Perm b → (a.Pairwise fun a b => dM.kle (cls a) (cls b)) → (b.Pairwise fun a b => dM.kle (cls a) (cls b)) → a = b
 | [], _, p, _, _ => p.nil_eq
 | x :: r, b, p, ha, hb => by
  cases b with
  | nil => exact absurd p.length_eq (by simp)
  | cons y t =>
   have hx : x ∈ y :: t := p.mem_iff.mp (.head _)
   have hy : y ∈ x :: r := p.mem_iff.mpr (.head _)
   have e : x = y := by
    rcases List.mem_cons.mp hx with h | h
    ·exact h
    ·rcases List.mem_cons.mp hy with h' | h'
     ·exact h'.symm
     ·exact oM (KeyOrd.kle_antisymm (O := dM) ((List.pairwise_cons.mp ha).1 y h') ((List.pairwise_cons.mp hb).1 x h))
   subst e
   rw [fY (List.Perm.cons_inv p) (List.pairwise_cons.mp ha).2 (List.pairwise_cons.mp hb).2]
theorem sb {xs ys : List (List Str)} (p : ys.Perm xs) (h : ys.Pairwise fun a b => dM.kle (cls a) (cls b)) : ys = jz xs := fY (p.trans (gy xs).symm) h (lD xs)
section
variable {prog : Program} {w : World} {A : Around} {E : Value → Shared → Prop} {s : Shared}
inductive TupsAre (h : Heap) : List Value → List (List Str) → Prop
 | nil : TupsAre h [] []
 | cons {a : Addr} {us : List Value} {xs : List Str} {vs : List Value} {xss : List (List Str)} : h.IsTuple a us.toArray → StrsAre us xs → xs ≠ [] → TupsAre h vs xss → TupsAre h (.ref a :: vs) (xs :: xss)
theorem TupsAre.all {h : Heap} : ∀ {vs : List Value} {xss : List (List Str)}, TupsAre h vs xss → ∀ v ∈ vs, ∃ a us xs, v = .ref a ∧ h.IsTuple a us.toArray ∧ StrsAre us xs ∧ xs ≠ []
 | _, _, .nil, v, hv => by simp at hv
 | _, _, .cons h1 h2 h3 r, v, hv => by
  rcases List.mem_cons.mp hv with rfl | hv
  ·exact ⟨_, _, _, rfl, h1, h2, h3⟩
  ·exact r.all v hv
theorem TupsAre.keep {h h' : Heap} (k : ∀ b o, h.get? b = some o → o.cls = .type "tuple" → h'.get? b = some o) {vs : List Value} {xss : List (List Str)} (x : TupsAre h vs xss) : TupsAre h' vs xss := by
 induction x with
 | nil => exact .nil
 | cons h1 h2 h3 _ ih => exact .cons (let ⟨o, ho, hc, r⟩ := h1; ⟨o, k _ o ho hc, hc, r⟩) h2 h3 ih
theorem nz {a b : Str} {t u : Tok} {f : Bool} {Q : Bool → Shared → Prop} (h : Q (decide (a.cps.toList < b.cps.toList)) s) : wpAny (model prog w) A (oneLt' f (.str a t) (.str b u)) Q E s := by
 cases f
 ·rw [oneLt'_eq]
  simp only [Bool.false_eq_true, if_false]
  refine wpAny_bind (wpAny_richCompare_same (typeIs_str s a t) (typeIs_str s b u) slot_str_lt (call_str_lt ⟨by simp, wpAny_truthy_bool h⟩))
 ·exact oneLt_str h
theorem pV {a : Addr} {us : List Value} {Q : Option Value → Shared → Prop} (h : s.heap.IsTuple a us.toArray) (q : Q us[0]? s) : wpAny (model prog w) A (firstOfTuple' (.ref a)) Q E s := by
 obtain ⟨o, ho, hc, n, hd⟩ := h
 refine wpAny_bind (wpAny_typeOf (T := "tuple") ⟨o, ho, hc⟩ ?_)
 show wpAny _ _ (if (Value.type "tuple" != Value.type "tuple") = true then pure none else _) Q E s
 rw [if_neg (by simp)]
 refine wpAny_bind (listItems_at ho hd (wpAny_pure ?_))
 rw [List.getElem?_toArray]
 exact q
theorem mu {x : Str} {a b : List Str} : decide (cls (x :: a) < cls (x :: b)) = decide (cls a < cls b) := decide_eq_decide.mpr List.cons_lt_cons_self
theorem rO {x y : Str} (e : x ≠ y) {a b : List Str} : decide (cls (x :: a) < cls (y :: b)) = decide (cl x < cl y) := by
 have hne : cl x ≠ cl y := fun h => e (fL h)
 exact decide_eq_decide.mpr (by simp only [cls, List.map_cons, List.cons_lt_cons_iff, hne, false_and, or_false])
theorem qm {f : (Value × Value) × Nat → Option Bool × Unit → Sem (ForInStep (Option Bool × Unit))}
  (hs : ∀ (x y : Str) (t u : Tok) (i : Nat) (R : ForInStep (Option Bool × Unit) → Shared → Prop), (x = y → R (.yield (none, ())) s) → (x ≠ y → R (.done (some (decide (cl x < cl y)), ())) s) → wpAny (model prog w) A (f ((.str x t, .str y u), i) (none, ())) R E s) :
  ∀ {us vs : List Value} {xs ys : List Str} (i : Nat) {R : Option Bool × Unit → Shared → Prop}, StrsAre us xs → StrsAre vs ys → R (some (decide (cls xs < cls ys)), ()) s → (decide (cls xs < cls ys) = decide (xs.length < ys.length) → R (none, ()) s) →
   wpAny (model prog w) A (forIn ((us.zip vs).zipIdx i) (none, ()) f) R E s := by
 intro us vs xs ys i R h1
 induction h1 generalizing vs ys i R with
 | nil =>
  intro h2 q1 q2
  refine wpAny_pure (q2 ?_)
  cases h2 <;> simp [cls]
 | cons x t h1 ih =>
  intro h2 q1 q2
  cases h2 with
  | nil => exact wpAny_pure (q2 (by simp [cls]))
  | cons y u h2 =>
   rw [List.zip_cons_cons, List.zipIdx_cons, List.forIn_cons]
   refine wpAny_bind (hs x y t u i _ (fun e => ?_) (fun e => wpAny_pure ?_))
   ·subst e
    refine ih (i + 1) h2 ?_ fun h => q2 ?_
    ·rw [mu] at q1; exact q1
    ·rw [mu, h]; simp
   ·rw [rO e] at q1; exact q1
theorem pQ {a b : Addr} {us vs : List Value} {xs ys : List Str} {Q : Bool → Shared → Prop} (h1 : s.heap.IsTuple a us.toArray) (h2 : s.heap.IsTuple b vs.toArray) (h3 : StrsAre us xs) (h4 : StrsAre vs ys) (q : Q (decide (cls xs < cls ys)) s) :
  wpAny (model prog w) A (keyLt' (tuples' true) (.ref a) (.ref b)) Q E s := by
 obtain ⟨o, ho, hc, n, hd⟩ := h1
 obtain ⟨o2, ho2, hc2, n2, hd2⟩ := h2
 refine wpAny_bind (listItems_at ho hd (wpAny_bind (listItems_at ho2 hd2 ?_)))
 rw [List.toList_toArray, List.toList_toArray]
 refine wpAny_bind (qm (fun x y t u i R r1 r2 => ?_) 0 h3 h4 (wpAny_pure q) fun e => wpAny_pure ?_)
 ·refine wpAny_bind (eqBool_str ?_)
  by_cases e : x = y
  ·subst e
   rw [beq_self_eq_true]
   exact wpAny_pure (r1 rfl)
  ·have : (x == y) = false := by simpa using e
   rw [this]
   exact wpAny_bind (nz (wpAny_pure (r2 e)))
 ·have e3 : us.length = xs.length := by rw [← h3.strs, List.length_map]
  have e4 : vs.length = ys.length := by rw [← h4.strs, List.length_map]
  have : decide (us.toArray.size < vs.toArray.size) = decide (cls xs < cls ys) := by rw [e, List.size_toArray, List.size_toArray, e3, e4]
  rw [this]; exact q
noncomputable def lV (h : Heap) : Value → List Str
 | .ref a => (match h.get? a with
  | some o => (match o.data with | .seq it _ => it.toList.map strOf | _ => [])
  | none => [])
 | _ => []
theorem iy {h : Heap} {a : Addr} {us : List Value} {xs : List Str} (h1 : h.IsTuple a us.toArray) (h2 : StrsAre us xs) : lV h (.ref a) = xs := by
 obtain ⟨o, ho, hc, n, hd⟩ := h1
 unfold lV
 dsimp only
 rw [ho]
 dsimp only
 rw [hd]
 dsimp only
 exact h2.strs
theorem TupsAre.map {h : Heap} : ∀ {vs : List Value} {xss : List (List Str)}, TupsAre h vs xss → vs.map (lV h) = xss
 | _, _, .nil => rfl
 | _, _, .cons h1 h2 _ r => by rw [List.map_cons, iy h1 h2, r.map]
theorem TupsAre.of_all {h : Heap} : ∀ {vs : List Value}, (∀ v ∈ vs, ∃ a us xs, v = .ref a ∧ h.IsTuple a us.toArray ∧ StrsAre us xs ∧ xs ≠ []) → TupsAre h vs (vs.map (lV h))
 | [], _ => .nil
 | v :: vs, hh => by
  obtain ⟨a, us, xs, rfl, h1, h2, h3⟩ := hh _ (.head _)
  rw [List.map_cons, iy h1 h2]
  exact .cons h1 h2 h3 (TupsAre.of_all fun v hv => hh v (.tail _ hv))
theorem i6 : ∀ {vs : List Value} {xss : List (List Str)} {Q : List (Option Value) → Shared → Prop}, TupsAre s.heap vs xss → (∀ (us : List Value) (ss : List Str), StrsAre us ss → us.length = vs.length → Q (us.map some) s) → wpAny (model prog w) A (vs.mapM firstOfTuple') Q E s
 | _, _, Q, .nil, q => wpAny_pure (q [] [] .nil rfl)
 | _, _, Q, .cons h1 h2 h3 r, q => by
  rw [List.mapM_cons]
  refine wpAny_bind (pV h1 (wpAny_bind (i6 r fun us ss hu hl => wpAny_pure ?_)))
  cases h2 with
  | nil => exact absurd rfl h3
  | cons x t h2 => exact q (.str x t :: us) (x :: ss) (.cons x t hu) (by simp [hl])
theorem rj {vs : List Value} {xss : List (List Str)} {Q : SortKind → Shared → Prop} (h : TupsAre s.heap vs xss) (h2 : 2 ≤ vs.length) (q : Q (tuples' true) s) : wpAny (model prog w) A (keyKind' vs.toArray) Q E s := by
 rw [keyKind'_eq, List.mapM_toArray]
 refine wpAny_bind (wpAny_map (i6 h fun us ss hu hl => ?_))
 have h1 : ((us.map some).toArray.all fun x : Option Value => x.isSome) = true := by simp
 rw [if_pos h1]
 refine wpAny_bind (wpAny_rule ?_)
 have h3 : Array.filterMap id (us.map some).toArray = us.toArray := by
  rw [List.filterMap_toArray]; simp
 rw [h3, oneTypeOnly'_eq, List.mapM_toArray, mapM_typeOf_strs hu]
 have h4 : us.length ≠ 0 := by omega
 cases hu with
 | nil => exact absurd rfl h4
 | cons x t hu =>
  rename_i us ss
  have h5 : ((List.map (fun _ => Value.type "str") (Value.str x t :: us)).toArray.all fun x => x == Value.type "str") = true := by
   simp only [List.all_toArray, List.all_map, List.all_eq_true]
   intro _ _
   rfl
  have h6 : (List.map (fun _ => Value.type "str") (Value.str x t :: us)).toArray[0]? = some (Value.type "str") := by simp
  simp only [map_pure, pure_bind]
  rw [h6]
  simp only [h5, if_true, pure_bind]
  exact wpAny_pure q
theorem pg {a : Addr} {vs : List Value} {xss : List (List Str)} {n : Nat} {P : Fin → Shared → Prop} (ho : s.heap.get? a = some (seqObj "list" vs.toArray n)) (h64 : vs.length < 64) (hS : TupsAre s.heap vs xss)
  (h : ∀ out : List Value, TupsAre s.heap out (jz xss) → P (.done (.ret .none)) { s with heap := sortedHeap s.heap a vs out.toArray }) :
  wpAny (model prog w) A (Builtin.«list.sort» ⟨[.ref a], []⟩) P E s := by
 have keep : ∀ s' : Shared, (∀ b o, b ≠ a → s.heap.get? b = some o → s'.heap.get? b = some o) → ∀ b o, s.heap.get? b = some o → o.cls = .type "tuple" → s'.heap.get? b = some o := fun s' hk b o h1 h2 =>
  hk b o (by rintro rfl; rw [ho] at h1; cases h1; simp at h2) h1
 refine oh (kd := tuples' true) (O := dM) (key := fun p => cls (lV s.heap p.1)) ho h64 (fun h2 s' hk Q q => rj (hS.keep (keep s' hk)) h2 q) (fun s' hk x y hx hy Q st hkd q => ?_) fun out hp hs => ?_
 ·rw [pairsOf_toList] at hx hy
  obtain ⟨b, us, xs, e1, t1, t2, t3⟩ := hS.all _ (mem_zip_self hx).2
  obtain ⟨c, us', xs', e2, u1, u2, u3⟩ := hS.all _ (mem_zip_self hy).2
  have q' : Q (some (decide (cls (lV s.heap x.1) < cls (lV s.heap y.1)))) st := q
  rw [e1, e2, iy t1 t2, iy u1 u2] at q'
  rw [lt'_eq, e1, e2]
  refine fZ ?_
  rw [hkd]
  refine wpS_bind (wpS_lift (wpAny_attempt (pQ (let ⟨o, ho, hc, r⟩ := t1; ⟨o, keep s' hk _ o ho hc, hc, r⟩) (let ⟨o, ho, hc, r⟩ := u1; ⟨o, keep s' hk _ o ho hc, hc, r⟩) t2 u2 ⟨rfl, ?_⟩)))
  exact wpS_pure q'
 ·have hall := fun v (hv : v ∈ out) => hS.all v (hp.mem_iff.mp hv)
  have e : out.map (lV s.heap) = jz xss := by
   refine sb ?_ ?_
   ·rw [← hS.map]; exact hp.map _
   ·rw [List.pairwise_map]; exact hs
  exact h out (e ▸ TupsAre.of_all hall)
end
section
variable {C : Cx} {p : Program} {sc : Scope} {k : Nat}
theorem iI {aS : Addr} {h : Heap} : ∀ {xss : List (List Str)} {ws : List Value}, VRels aS h (xss.map ko) ws → (∀ l ∈ xss, l ≠ []) → TupsAre h ws xss
 | [], _, r, _ => by rw [r.inv0]; exact .nil
 | x :: xss, _, r, hn => by
  obtain ⟨w, ws, rfl, h1, r2⟩ := r.invC
  cases h1 with
  | tup ht hs => exact .cons ht (iK hs) (hn _ (.head _)) (iI r2 fun l hl => hn l (.tail _ hl))
theorem ru : ∀ xs : List Str, uI (xs.map .str) = true
 | [] => rfl
 | _ :: _ => rfl
theorem gQ {aS : Addr} {h : Heap} : ∀ {xss : List (List Str)} {ws : List Value}, TupsAre h ws xss → VRels aS h (xss.map ko) ws
 | _, _, .nil => .nil
 | _, _, .cons h1 h2 _ r => .cons (.tup h1 (dP h2) (tS (dP (aS := aS) (h := h) h2) (ru _))) (gQ r)
noncomputable def kz : bK := fun vs σ Q => onR vs fun a => ∃ xss : List (List Str), σ a = some (.list (xss.map ko)) ∧ (∀ l ∈ xss, l ≠ []) ∧ xss.length < 64 ∧ cR ((jz xss).map ko) σ Q
theorem nA (O : C.Ok) : mY C k (fun ws => PySem.call (.builtin "sorted") ws) kz := by
 intro A s σ vs ws Q P E ao R hv q hP
 replace q := onR.elim q
 obtain ⟨a, rfl, q⟩ := q
 ·obtain ⟨wa, rfl, h1⟩ := hv.inv1
  cases h1
  obtain ⟨xss, hx, hn, h64, q⟩ := q
  obtain ⟨hz, us, h2, h3⟩ := R.view _ _ hx
  have hlen := h3.length
  have hT := iI h3 hn
  refine call_function_entry kind_sorted plain_sorted entry_sorted (args_sorted1 _) ?_
  unfold Builtin.«sorted»
  refine wpAny_bind (m := checkCount "sorted" 1 1 _) (wpAny_pure ?_)
  refine wpAny_bind (be (collect_list h2.isList ?_ (by rw [← hlen, sizeLine_eq]; exact hz)))
  intro hsz
  have hk : ∀ b o, s.heap.get? b = some o → ((s.heap.push (seqObj "list" #[] 0)).update s.heap.objs.size (Obj.mapSeq fun x => x ++ us.toArray)).get? b = some o := fun b o e => by
   rw [Heap.get?_update_ne _ _ _ _ (Nat.ne_of_lt (Heap.lt_size e))]
   exact Heap.get?_push_of_some _ e
  generalize (s.heap.push (seqObj "list" #[] 0)).update s.heap.objs.size (Obj.mapSeq fun x => x ++ us.toArray) = h' at hk hsz ⊢
  have hvl : us.length ≤ 16777216 := by rw [← hlen]; exact hz
  refine wpAny_bind (wpAny_newList ?_ (by rw [sizeLine_eq]; exact hvl))
  have hoL : (h'.push (seqObj "list" us.toArray 0)).get? h'.objs.size = some (seqObj "list" us.toArray 0) := Heap.get?_push_size _ rfl
  have hT2 : TupsAre (h'.push (seqObj "list" us.toArray 0)) us xss := hT.keep fun b o e _ => Heap.get?_push_of_some _ (hk b o e)
  refine wpAny_bind (wpAny_holding (wpAny_call_entry slot_list_sort ⟨_, hoL, rfl⟩ entry_list_sort (pg hoL (by rw [← hlen, List.length_map]; exact h64) hT2 fun out h1 => ⟨_, rfl, ?_⟩) (args_list_sort _)))
  refine wpAny_pure ⟨_, rfl, ?_⟩
  obtain ⟨e, he⟩ := sortedHeap_at (out := out.toArray) hoL
  have hk2 : ∀ b o, s.heap.get? b = some o → (sortedHeap (h'.push (seqObj "list" us.toArray 0)) h'.objs.size us out.toArray).get? b = some o := fun b o eb => by
   have hb := Heap.lt_size (hk b o eb)
   rw [sortedHeap_old (Nat.ne_of_lt hb) (by rw [Heap.size_push]; exact Nat.lt_succ_of_lt hb)]
   exact Heap.get?_push_of_some _ (hk b o eb)
  have hn2 : s.heap.get? h'.objs.size = Option.none := aA hsz
  have hsz2 : s.heap.objs.size ≤ (sortedHeap (h'.push (seqObj "list" us.toArray 0)) h'.objs.size us out.toArray).objs.size := Nat.le_trans hsz (Nat.le_of_lt (Heap.lt_size he))
  have hT3 : TupsAre (sortedHeap (h'.push (seqObj "list" us.toArray 0)) h'.objs.size us out.toArray) out (jz xss) := h1.keep fun b o eb hc => by
   rw [sortedHeap_old (by rintro rfl; rw [hoL] at eb; cases eb; simp at hc) (Heap.lt_size eb)]
   exact eb
  exact hP (.ref h'.objs.size) (.ref h'.objs.size) (aY σ h'.objs.size (.list ((jz xss).map ko))) _ (.ref _)
   (R.add (tk := s.toks) hk2 hn2 ⟨by rw [List.length_map, (gy xss).length_eq]; simpa using hz, out, ⟨e, he⟩, gQ hT3⟩) (.add hk2 hsz2 hsz) (q _ (R.freshNone hn2))
theorem n9 (G : Gl C p) (hpl : C.held = Option.none) {np pos : Pos} {es : List Expr} {L : LT} (hn : sc.names.lookup (Str.ofString "sorted") = some .globalImplicit) (hl : HL C sc k es L) (hp : aJ es = true) : HE C sc k (.Call (.Name (Str.ofString "sorted") np) es [] pos) (aE kz L) :=
 cq G.ok (nA G.ok) hn (G.free _ (by decide)) (G.blt gM (by decide)) rfl hl hp
end
end Mine
end
noncomputable section
namespace Mine
open PySem
section
variable {C : Cx} {M : Model} {A : Around} {E : Value → Shared → Prop} {s : Shared} {env : Env} {σ : ah} {m : bb} {c : String} {n : Nat} {e : Addr} {ok : Option Value → Prop}
noncomputable def frs (env : Env) (outer : List Env) : List Addr := (env :: outer).filterMap (·.frame)
end
end Mine
end
noncomputable section
namespace Mine
open PySem
section
variable {C : Cx} {env : Env} {m : bb} {σ σ' : ah} {n : Nat} {S : List Addr}
end
abbrev XT := String → bb → ah → Prop
abbrev xB := bb → ah → (Fl → bb → ah → Prop) → XT → Prop
section
variable {C : Cx} {sc : Scope} {k : Nat}
noncomputable def xP (T : ST) : xB := fun m σ Q _ => T m σ Q
end
end Mine
end
noncomputable section
namespace Mine
open PySem
section
variable {C : Cx} {sc : Scope} {k : Nat} {A A' : Around} {env : Env} {c : String} {e : Addr} {σ₀ σ : ah} {h₀ : Heap} {m : bb} {s : Shared} {ok : Option Value → Prop} {M : Model} {E : Value → Shared → Prop}
end
end Mine
end
noncomputable section
namespace Mine
open PySem PySem.W PyProof.Rows PySem.Calls
section
variable {C : Cx}
end
end Mine
end
noncomputable section
namespace Mine
open PySem
end Mine
end
noncomputable section
namespace Mine
open PySem PySem.W PyProof.Rows PySem.Calls
section
variable {C : Cx} {sc : Scope} {k : Nat}
end
end Mine
end
noncomputable section
set_option maxRecDepth 100000
namespace Mine
open PySem PySem.W PyProof.Rows PySem.Calls
section
variable {prog : Program} {w : World} {A : Around} {E : Value → Shared → Prop} {s : Shared} {Cl a : Addr} {bm : List Value} {o : Obj}
end
end Mine
end
noncomputable section
namespace Mine
open PySem PySem.W PyProof.Rows PySem.Calls
section
variable {C : Cx} {e : Addr} {o : Obj} {σ : ah} {s : Shared} {env : Env} {m : bb} {p : Program} {vs : Array Value}
end
end Mine
end
noncomputable section
set_option maxRecDepth 100000
namespace Mine
open PySem PySem.W PyProof.Rows PySem.Calls
section
variable {prog : Program} {w : World} {A : Around} {E : Value → Shared → Prop} {s : Shared} {Cl H a : Addr} {bm bmH : List Value} {o : Obj} {M : Model}
end
noncomputable def cut (m : bb) (x : String) : bb := fun y => if y = x then Option.none else m y
section
variable {C : Cx} {sc : Scope} {k : Nat}
end
end Mine
end
noncomputable section
set_option maxRecDepth 100000
namespace Mine
open PySem PySem.W PyProof.Rows PySem.Calls
section
variable {prog : Program} {w : World} {A : Around} {E : Value → Shared → Prop} {s : Shared} {Cl H a : Addr} {bm bmH : List Value} {o : Obj}
end
section
variable {C : Cx} {sc : Scope} {k : Nat} {p : Program}
end
end Mine
end
noncomputable section
namespace Mine
open PySem PySem.W PyProof.Rows PySem.Calls
section
variable {C : Cx} {sc : Scope} {k : Nat}
end
end Mine
end
noncomputable section
namespace Mine
open PySem PySem.W PyProof.Rows PySem.Calls
section
variable {C : Cx} {sc : Scope} {k : Nat} {p : Program} {cs ks : List String} {ad : String → Addr}
end
section
variable {m : bb} {σ : ah} {Q : Fl → bb → ah → Prop} {X : XT} {R : V → ah → Prop} {Y : String → ah → Prop}
@[simp] theorem yd {T : ST} : xP T m σ Q X = T m σ Q := rfl
noncomputable def tB (U : xB) (Q : Fl → bb → ah → Prop) (X : XT) : Fl → bb → ah → Prop := fun f m σ => match f with
 | .next => U m σ Q X
 | f => Q f m σ
@[simp] theorem tY (U : xB) : tB U Q X .next m σ = U m σ Q X := rfl
@[simp] theorem vk (U : xB) (v : V) : tB U Q X (.ret v) m σ = Q (.ret v) m σ := rfl
end
end Mine
end
noncomputable section
set_option maxRecDepth 100000
namespace Mine
open PySem PySem.W PyProof.Rows PySem.Calls
structure Bk (C : Cx) (bk N : Addr) (mN : Str → Option Value) : Prop where
 glob : C.mg (Str.ofString "Book") = some (.ref bk)
 cls : ClsAt C.hB bk N mN
 look : ∀ n ∈ (["__getattribute__", "__getattr__", "__setattr__", "trees", "made_of"] : List String), mN (Str.ofString n) = none
noncomputable def MtAt (C : Cx) (mN : Str → Option Value) (j : Nat) (f : String) (spec : bK) : Prop :=
 ∃ a o fd, mN (Str.ofString f) = some (.ref a) ∧ C.hB.get? a = some o ∧ o.cls = .type "function" ∧ o.data = .func fd ∧ FnSound C j a spec
section
variable {C : Cx} {bk N : Addr} {mN : Str → Option Value} {sc : Scope} {k : Nat}
theorem d6 {h : Heap} {Cl N : Addr} {mN : Str → Option Value} {P : Prop} (X : ClsAt h Cl N mN)
  (k : ∀ (nm q : Str) (bs : List Value) (sn : List Str) (sub : List Value) (col : Option Bool) (dd : Option Addr) (k0 k1 k2 k3 k5 : Option Value), h.get? Cl = some (excClassObj nm q Cl N bs [.type "object"] true sn sub false col dd k0 k1 k2 k3 k5 "object.__new__") → P) : P := by
 obtain ⟨nm, q, bs, sn, sub, col, dd, k0, k1, k2, k3, k5, hC⟩ := X.obj
 exact k nm q bs sn sub col dd k0 k1 k2 k3 k5 hC
theorem gK {σ : ah} {s : Shared} {a dx : Addr} {fs : List (String × V)} (B : Bk C bk N mN) (R : RelG C σ s) (ha : σ a = some (.inst dx)) (hd : σ dx = some (.ns fs)) :
  fs.length ≤ 1000 ∧ ∃ mA, s.heap.Inst a bk mA ∧ s.heap.get? a = some { cls := .ref bk, dict := some dx, data := .plain } ∧ (∀ x v, fs.lookup x = some v → ∃ w, mA (Str.ofString x) = some w ∧ VRel C.aS s.heap v w) ∧ ∀ y : Str, (∀ q ∈ fs, y ≠ Str.ofString q.1) → mA y = none := by
 obtain ⟨cl, h1, h2, h3⟩ := R.view _ _ ha
 rw [B.glob] at h1; cases h1
 obtain ⟨hz, mA, h4, h5, h6⟩ := R.view _ _ hd
 exact ⟨hz, mA, ⟨_, h3, rfl, fun c => by simp, .inr ⟨dx, rfl, h2, h4⟩⟩, h3, h5, h6⟩
theorem nF {fs : List (String × V)} {x : String} (h : fs.lookup x = none) : ∀ q ∈ fs, Str.ofString x ≠ Str.ofString q.1 := by
 induction fs with
 | nil => intro q hq; cases hq
 | cons p r ih =>
  intro q hq e
  rw [List.lookup_cons] at h
  split at h
  ·cases h
  ·rename_i hb
   rcases List.mem_cons.mp hq with rfl | hq
   ·have := bR e
    rw [this] at hb
    simp at hb
   ·exact ih h q hq e
noncomputable def aW (x : String) : Prop := typeLookup (.type "object") (Str.ofString x) = pure none
noncomputable def cj (x : String) (T : ET) : ET := fun m σ Q => T m σ fun v σ' => ∃ a dx fs t, v = .ref a ∧ σ' a = some (.inst dx) ∧ σ' dx = some (.ns fs) ∧ fs.lookup x = some (.ref t) ∧ Q (.ref t) σ'
theorem bB (B : Bk C bk N mN) {x : String} {o : Expr} {pos : Pos} {T : ET} (hx : aW x) (hn : mN (Str.ofString x) = Option.none) (ho : HE C sc k o T)
  (hbase : ∀ env, attributeBase o (Str.ofString x) env (eval o env) = eval o env) : HE C sc k (.Attribute o (Str.ofString x) pos) (cj x T) := by
 refine ⟨?_⟩; intro env A s m σ Q P E en ao R F q hP
 rw [arm_eval_Attribute, hbase]
 refine wpAny_bind (ho.run env A s m σ _ _ E en ao R F q fun v w σ₁ s₁ hv R₁ S₁ q₁ => ?_)
 obtain ⟨a, dx, fs, t, rfl, ha, hd, hl, q₁⟩ := q₁
 cases hv
 obtain ⟨_, mA, hI, _, hm, _⟩ := gK B R₁ ha hd
 obtain ⟨w, hw, hr⟩ := hm _ _ hl
 cases hr
 refine wpAny_bind (wpAny_standAt (wpAny_bind (wpAny_holding ?_)))
 have hcl := B.cls.keeps R₁.base
 obtain ⟨hh, g, d, tk, os⟩ := s₁
 refine d6 hcl fun nm q bs sn sub col dd k0 k1 k2 k3 k5 hC => ?_
 refine load_attr hC hcl.ns (B.look "__getattribute__" (by decide)) hn hx hI hw rfl ?_
 exact wpAny_bind (wpAny_letTemporaryGo (wpAny_pure (hP _ _ σ₁ _ (.ref _) (R₁.tok _) S₁ q₁)))
theorem RelG.turn {σ : ah} {s : Shared} {h' : Heap} {tk : Nat} {a : Addr} {o o' : AObj} (R : RelG C σ s) (ha : σ a = some o) (hk : ∀ b ob, b ≠ a → s.heap.get? b = some ob → h'.get? b = some ob) (ho : ObjRel C h' a o') :
  RelG C (aY σ a o') { s with heap := h', toks := tk } := by
 obtain ⟨ob, h1, h2, _⟩ := (R.view a o ha).shape
 have kt : a0 s.heap h' := fun b o eb ht => hk b o (by rintro rfl; rw [h1] at eb; cases eb; exact h2 ht) eb
 refine ⟨let ⟨_, _, d, e⟩ := R.rest; ⟨h', tk, d, by rw [e]⟩, fun b o e => hk b o (by rintro rfl; rw [R.apart b (by rw [ha]; simp)] at e; cases e) (R.base b o e), fun b ob e => ?_, fun b hb => ?_⟩
 ·by_cases q : b = a
  ·subst q; rw [an] at e; cases e; exact ho
  ·rw [az q] at e; exact (R.view b ob e).keep kt fun o e => hk b o q e
 ·by_cases q : b = a
  ·subst q; exact R.apart b (by rw [ha]; simp)
  ·rw [az q] at hb; exact R.apart b hb
theorem Step.turn {own : Addr → Prop} {σ : ah} {h h' : Heap} {a : Addr} {o o' : AObj} (ha : σ a = some o) (hk : ∀ b ob, b ≠ a → h.get? b = some ob → h'.get? b = some ob) (hz : h.objs.size ≤ h'.objs.size) : Step own σ (aY σ a o') h h' :=
 .of (fun b o e n _ => hk b o (by rintro rfl; rw [ha] at n; cases n) e) hz fun b n m => by
  by_cases q : b = a
  ·subst q; rw [ha] at n; cases n
  ·rw [az q] at m; exact absurd n m
theorem pb {fs : List (String × V)} {mA : Str → Option Value} (h : ∀ y : Str, (∀ q ∈ fs, y ≠ Str.ofString q.1) → mA y = none) : Within mA (fs.map fun q => Str.ofString q.1) := by
 intro n e
 apply Classical.byContradiction
 intro hn
 exact e (h n fun q hq z => hn (List.mem_map.mpr ⟨q, hq, z.symm⟩))
noncomputable def oy (x : String) (T To : ET) : ST := fun m σ Q => T m σ fun v σ₁ => To m σ₁ fun o σ₂ => ∃ a dx fs, o = .ref a ∧ σ₂ a = some (.inst dx) ∧ σ₂ dx = some (.ns fs) ∧ fs.length < 1000 ∧ Q .next m (aY σ₂ dx (.ns ((x, v) :: fs)))
theorem mZ (B : Bk C bk N mN) {x : String} {o value : Expr} {pos' pos : Pos} {T To : ET} (hx : aW x) (hn : mN (Str.ofString x) = Option.none) (he : HE C sc k value T) (ho : HE C sc k o To)
  (hs : ∀ env, EnvOk env sc → swapsWith value (some (.Attribute o (Str.ofString x) pos')) pos.line env = pure false) : HS1 C sc k (.Assign [.Attribute o (Str.ofString x) pos'] value pos) (oy x T To) := by
 refine ⟨?_⟩; intro env A s m σ Q P E en ao R F q hP
 refine plainObj_wpAny_Assign_Attribute (he.run env A s m σ _ _ E en ao R F q fun v w σ₁ s₁ hv R₁ S₁ q₁ => ho.run env A s₁ m σ₁ _ _ E en ao R₁ (F.step R S₁) q₁ fun u wo σ₂ s₂ hvo R₂ S₂ q₂ => ?_) (hs env en)
 obtain ⟨a, dx, fs, rfl, ha, hd, hz, q₂⟩ := q₂
 cases hvo
 obtain ⟨_, mA, hI, hoa, hm, hno⟩ := gK B R₂ ha hd
 have hv₂ := hv.keep (S₂.tupsN R₁)
 have hcl := B.cls.keeps R₂.base
 have F₂ := F.step R (S₁.trans S₂)
 have hxC : a ≠ bk := d6 B.cls fun nm q bs sn sub col dd k0 k1 k2 k3 k5 hC₀ => by rintro rfl; rw [R₂.apart a (by rw [ha]; simp)] at hC₀; cases hC₀
 refine be ?_
 obtain ⟨hh, g, d, tk, os⟩ := s₂
 refine d6 hcl fun nm q bs sn sub col dd k0 k1 k2 k3 k5 hC => ?_
 refine store_attr PySem.F.store_object hC hcl.ns (B.look "__setattr__" (by decide)) hn hx hxC hI (fun h' tk' I' hk hsame hsz => ?_) (pb hno) (by rw [List.length_map, sizeLine_eq]; omega)
 obtain ⟨o₁, e₁, c₁, dt₁, sl₁, dk₁⟩ := hsame _ hoa
 have ho₁ : o₁ = { cls := .ref bk, dict := some dx, data := .plain } := by
  obtain ⟨oc, od, odt, osl⟩ := o₁
  have := dk₁ dx rfl
  dsimp only at c₁ dt₁ sl₁ this
  subst c₁ dt₁ sl₁ this
  rfl
 subst ho₁
 have hk' : ∀ b ob, b ≠ dx → hh.get? b = some ob → h'.get? b = some ob := fun b ob hb e => by
  by_cases hba : b = a
  ·subst hba
   have : hh.get? b = _ := hoa
   rw [this] at e; cases e; exact e₁
  ·exact hk b ob hba (fun o₀ d' e₀ ed => by
    have h9 : hh.get? a = _ := hoa
    rw [h9] at e₀; cases e₀; cases ed; exact hb) e
 obtain ⟨ob, hob, hnT, _⟩ := (R₂.view dx _ hd).shape
 have kt : a0 hh h' := fun b o eb ht => hk' b o (by
  rintro rfl
  have h9 : hh.get? b = _ := hob
  rw [h9] at eb; cases eb; exact hnT ht) eb
 obtain ⟨o', e', _, _, hd'⟩ := I'
 rw [e₁] at e'; cases e'
 rcases hd' with ⟨hn0, _⟩ | ⟨d', hd', _, hns'⟩
 ·cases hn0
 cases hd'
 have hobj : ObjRel C h' dx (.ns ((x, v) :: fs)) := by
  refine ⟨by simp; omega, _, hns', fun y u e => ?_, fun y hy => ?_⟩
  ·rw [List.lookup_cons] at e
   split at e
   ·rename_i hb
    cases e
    have : y = x := by simpa using hb
    subst this
    exact ⟨w, by simp, hv₂.keep kt⟩
   ·rename_i hb
    have hyx : y ≠ x := by simpa using hb
    obtain ⟨w', h8, h9⟩ := hm y u e
    exact ⟨w', by simp [show ¬ Str.ofString y = Str.ofString x from fun z => hyx (bR z), h8], h9.keep kt⟩
  ·simp [hy (x, v) (.head _), hno y fun q hq => hy q (.tail _ hq)]
 have R₃ := R₂.turn (tk := tk') hd hk' hobj
 have S₃ : Step no σ₂ (aY σ₂ dx (.ns ((x, v) :: fs))) hh h' := .turn hd hk' hsz
 exact hP .next .next m _ _ .next R₃ (F₂.step R₂ S₃) ((S₁.trans S₂).trans S₃).own q₂
noncomputable def aU (f : String) (spec : bK) (T : ET) (L : LT) : ET := fun m σ Q => T m σ fun v σ₁ => (∃ a dx fs, v = .ref a ∧ σ₁ a = some (.inst dx) ∧ σ₁ dx = some (.ns fs) ∧ fs.lookup f = none) ∧ L m σ₁ fun vs σ₂ => spec (v :: vs) σ₂ Q
theorem rQ {es : List Expr} {env : Env} {pos : Pos} (hp : aJ es = true) (hfew : es.length < 30) : methodCallForm (es.length + ([] : List Keyword).length) (backTo pos (starEach es env)) (backToKw pos (keywordEach [] env)) = true := by
 have hall : (backTo pos (starEach es env)).all (fun x => !x.1) = true := by
  have := bh (env := env) (pos := pos) hp
  rw [List.any_eq_false] at this
  rw [List.all_eq_true]
  intro x hx
  have := this x hx
  simp at this
  simp [this]
 unfold methodCallForm
 rw [hall]
 simp [backToKw, keywordEach]; omega
theorem rb {σ₁ : ah} {s₁ : Shared} {A : Around} {E : Value → Shared → Prop} {pl : Sem Bool} {f : String} {a dx fa : Addr} {fs : List (String × V)} {of : Obj} {y : Option Value} (B : Bk C bk N mN) (R₁ : RelG C σ₁ s₁) (hmf : mN (Str.ofString f) = some (.ref fa)) (hof : C.hB.get? fa = some of) (hfc : of.cls = .type "function") (hB : typeLookup (.type "object") (Str.ofString f) = pure y)
  (ha : σ₁ a = some (.inst dx)) (hd : σ₁ dx = some (.ns fs)) (hl0 : fs.lookup f = none) {Q : Value × List Value → Shared → Prop} (q : Q (.ref fa, [.ref a]) s₁) : wpAny (model C.prog C.w) A (getMethod (.ref a) (Str.ofString f) pl) Q E s₁ := by
 obtain ⟨_, mA, hI, _, _, hno⟩ := gK B R₁ ha hd
 have hcl := B.cls.keeps R₁.base
 have hfh := R₁.base _ _ hof
 obtain ⟨hh, g, d, tk, os⟩ := s₁
 refine d6 hcl fun nm q' bs sn sub col dd k0 k1 k2 k3 k5 hC => ?_
 exact method_of hC hcl.ns (B.look "__getattribute__" (by decide)) (B.look "__getattr__" (by decide)) hmf hfh hfc hB hI (hno _ (nF hl0)) q
theorem aI (O : C.Ok) (B : Bk C bk N mN) {f : String} {o : Expr} {apos pos : Pos} {es : List Expr} {spec : bK} {To : ET} {L : LT} {j : Nat} {y : Option Value} (hf : MtAt C mN j f spec) (hj : j < k) (hB : typeLookup (.type "object") (Str.ofString f) = pure y) (ho : HE C sc k o To) (hl : HL C sc k es L) (hp : aJ es = true)
  (hbase : ∀ env, attributeBase o (Str.ofString f) env (eval o env) = eval o env) (hline : (apos.endLine == pos.line) = true) (hfew : es.length < 30) : HE C sc k (.Call (.Attribute o (Str.ofString f) apos) es [] pos) (aU f spec To L) := by
 obtain ⟨fa, of, fd, hmf, hof, hfc, hfd, hS⟩ := hf
 refine ⟨?_⟩; intro env A s m σ Q P E en ao R F q hP
 rw [arm_eval_Call, hbase]
 refine wpAny_bind (ho.run env A s m σ _ _ E en ao R F q fun v w σ₁ s₁ hv R₁ S₁ q₁ => ?_)
 obtain ⟨⟨a, dx, fs, rfl, ha, hd, hl0⟩, q₁⟩ := q₁
 have hv' := hv
 cases hv'
 refine wpAny_bind (wpAny_standAt ?_)
 have hpos : methodCallPos true o env apos pos = pure pos := by unfold methodCallPos; simp [hline]
 unfold methodCall
 rw [rQ hp hfew]
 refine wpAny_bind (wpAny_holding ?_)
 show wpAny _ A (getMethod (.ref a) (Str.ofString f) _) _ E s₁
 refine rb B R₁ hmf hof hfc hB ha hd hl0 ?_
 refine wpAny_bind (wpAny_of_eq hpos ?_)
 show wpAny _ A (callWith pos (.ref fa) [.ref a] (backTo pos (starEach es env)) []) P E s₁
 refine Calls.callWith_function (o := of) (fd := fd) (bn hp (hl.run env A s₁ m σ₁ pos _ _ E en ao R₁ (F.step R S₁) q₁ fun vs ws σ₂ s₂ hvs R₂ S₂ q₂ => ⟨⟨R₂.base _ _ hof, hfd⟩, ?_⟩))
 exact wpAny_call (hS A s₂ σ₂ (.ref a :: vs) (.ref a :: ws) Q P E (ao.le hj) R₂ (.cons (.ref a) hvs) q₂ fun v w σ' s' hv' R' S' q' => hP v w σ' s' hv' R' ((S₁.trans S₂).trans S') q')
end
end Mine
end
noncomputable section
set_option maxRecDepth 100000
namespace Mine
open PySem PySem.W PyProof.Rows PySem.Calls
abbrev cf (h : Heap) (Cl : Addr) : Heap := (h.push { cls := .type "dict", data := .dict #[] }).push { cls := .ref Cl, dict := some h.objs.size, data := .plain }
section
variable {prog : Program} {w : World} {A : Around} {E : Value → Shared → Prop} {h : Heap} {g : Array GenState} {d : Drawn} {t : Nat} {os : OsState}
variable {nm q : Str} {Cl N : Addr} {bs : List Value} {sn : List Str} {sub : List Value} {col : Option Bool} {dd : Option Addr} {k0 k1 k2 k3 k5 : Option Value}
theorem pK {mN : Str → Option Value} {fI : Addr} {oI : Obj} {Q : Fin → Shared → Prop}
  (hC : h.get? Cl = some (excClassObj nm q Cl N bs [.type "object"] true sn sub false col dd k0 k1 k2 k3 k5 "object.__new__")) (hn : h.Ns N mN) (hi : mN "__init__" = some (.ref fI))
  (hfI : h.get? fI = some oI) (hfc : oI.cls = .type "function")
  (hq : wpAny (model prog w) A (call (.ref fI) [.ref (h.objs.size + 1)]) (fun r s' => r = .none ∧ Q (.done (.ret (.ref (h.objs.size + 1)))) s') E ⟨cf h Cl, g, d, t, os⟩) :
  wpAny (model prog w) A (Builtin.«type.__call__» ⟨[.ref Cl], []⟩) Q E ⟨h, g, d, t, os⟩ := by
 have hlk : typeLookup (.type "object") "__init__" = pure (some (.builtin "object.__init__")) := by rw [typeLookup_type, builtinLookup_eq_fast]; kernel_rfl
 have O := PySem.F.objNew
 repeat (first | with_reducible refine wpAny_loadPart_at hC ?_ | with_reducible refine wpAny_madeBy_exc hC ?_ | wp_step)
 refine codeAny_call_builtin_code (Code.quiet_builtin _ O.quiet) (wpAny_check_obj_new O hC (codeAny_obj_new O hC hn hi ?_))
 show wpAny _ _ _ _ _ _
 have old : ∀ b o, h.get? b = some o → (cf h Cl).get? b = some o := fun b o e => Heap.get?_push_of_some _ (Heap.get?_push_of_some _ e)
 have hx : (cf h Cl).get? (h.objs.size + 1) = some { cls := .ref Cl, dict := some h.objs.size, data := .plain } := by heap_get
 have hcC : (Value.ref Cl :: [Value.type "object"]).contains (.ref Cl) = true := by simp
 unfold isInstance
 repeat (first | with_reducible refine wpAny_loadPart_at hx ?_ | (with_reducible refine wpAny_isSubtype_exc (old _ _ hC) ?_; rw [hcC]) | wp_step)
 show wpAny _ _ (typeLookup (.ref Cl) _) _ _ _
 refine wpAny_typeLookup_exc (old _ _ hC) (hn.keeps old) PySem.F.mro_object hlk ?_
 rw [hi]
 refine wpAny_holding (wpAny_bind ?_)
 unfold bindSpecial
 refine wpAny_bind (wpAny_typeOf (T := "function") ⟨_, old _ _ hfI, hfc⟩ ?_)
 rw [if_pos (by decide)]
 refine wpAny_pure (wpAny_bind (wpAny_mono hq (fun r s' hr => ?_) fun _ _ x => x))
 obtain ⟨rfl, hQ⟩ := hr
 wp_walk
 exact hQ
theorem pL {mN : Str → Option Value} {fI : Addr} {oI : Obj} {Q : Value → Shared → Prop}
  (hC : h.get? Cl = some (excClassObj nm q Cl N bs [.type "object"] true sn sub false col dd k0 k1 k2 k3 k5 "object.__new__")) (hn : h.Ns N mN) (hi : mN "__init__" = some (.ref fI))
  (hfI : h.get? fI = some oI) (hfc : oI.cls = .type "function")
  (hq : wpAny (model prog w) (A.under (.builtin "type.__call__" ⟨[.ref Cl], []⟩)) (call (.ref fI) [.ref (h.objs.size + 1)]) (fun r s' => r = .none ∧ Q (.ref (h.objs.size + 1)) s') E ⟨cf h Cl, g, d, t, os⟩) :
  wpAny (model prog w) A (call (.ref Cl) []) Q E ⟨h, g, d, t, os⟩ := by
 have f1 := tc_lookup
 have f2 := tc_bind (.ref Cl)
 have hT : (⟨h, g, d, t, os⟩ : Shared).TypeIs (.ref Cl) "type" := ⟨_, hC, rfl⟩
 refine wpAny_call (codeAny_of_tree ?_)
 show wpAny _ _ (callAny (.ref Cl) _) _ _ _
 repeat (any_goals (first | assumption | with_reducible refine wpAny_loadPart_at hC ?_ | wp_step))
 refine ⟨rfl, ?_⟩
 exact codeAny_call_builtin_at (Code.quiet_builtin _ (by decide +kernel)) entry_typeCall (wpAny_check_type_call_sub hC (pK hC hn hi hfI hfc hq))
end
section
variable {C : Cx} {bk N : Addr} {mN : Str → Option Value} {sc : Scope} {k : Nat}
noncomputable def uT (spec : bK) : ET := fun _ σ Q => ∀ a dx, σ a = none → σ dx = none → dx ≠ a → spec [.ref a] (aY (aY σ dx (.ns [])) a (.inst dx)) fun r σ' => r = .none ∧ Q (.ref a) σ'
theorem vh (O : C.Ok) (B : Bk C bk N mN) {spec : bK} {j : Nat} {np pos : Pos} (hf : MtAt C mN j "__init__" spec) (hj : j + 1 < k) (hn : sc.names.lookup (Str.ofString "Book") = some .globalImplicit) :
  HE C sc k (.Call (.Name (Str.ofString "Book") np) [] [] pos) (uT spec) := by
 obtain ⟨fa, of, fd, hmf, hof, hfc, hfd, hS⟩ := hf
 refine ⟨?_⟩; intro env A s m σ Q P E en ao R F q hP
 refine wpAny_Call_NameR (Calls.Name_function_global en.k (en.of hn) (Calls.loadGlobal_global (mg := C.mg) (by rw [en.globals]; exact O.g.keeps R.base) B.glob ?_) (by decide))
 refine callWith_cls0 B.cls R.base ?_
 have hcl := B.cls.keeps R.base
 have hfh := R.base _ _ hof
 have n0 := bC s.heap
 have n1 : s.heap.get? (s.heap.objs.size + 1) = Option.none := aA (Nat.le_succ _)
 have hq := q (s.heap.objs.size + 1) s.heap.objs.size (R.freshNone n1) (R.freshNone n0) (Nat.ne_of_lt (Nat.lt_succ_self _))
 have old : ∀ b o, s.heap.get? b = some o → (cf s.heap bk).get? b = some o := fun b o e => Heap.get?_push_of_some _ (Heap.get?_push_of_some _ e)
 have gd : (s.heap.push { cls := .type "dict", data := .dict #[] }).get? s.heap.objs.size = some { cls := .type "dict", data := .dict #[] } := Heap.get?_push_size _ rfl
 have R₁ : RelG C (aY σ s.heap.objs.size (.ns [])) { s with heap := s.heap.push { cls := .type "dict", data := .dict #[] } } :=
  R.add (tk := s.toks) aV n0 ⟨by simp, fun _ => Option.none, Heap.Ns1.of_empty ⟨_, #[], _, gd, rfl, fun e he => absurd he (by simp), fun _ => rfl⟩, fun x v e => by simp at e, fun _ _ => rfl⟩
 have gx : (cf s.heap bk).get? (s.heap.objs.size + 1) = some { cls := .ref bk, dict := some s.heap.objs.size, data := .plain } := by
  have := Heap.get?_push_size (s.heap.push { cls := .type "dict", data := .dict #[] }) (o := { cls := .ref bk, dict := some s.heap.objs.size, data := .plain }) rfl
  rw [Heap.size_push] at this; exact this
 have R₂ : RelG C (aY (aY σ s.heap.objs.size (.ns [])) (s.heap.objs.size + 1) (.inst s.heap.objs.size)) { s with heap := cf s.heap bk } :=
  R₁.add (tk := s.toks) aV (aA (by rw [Heap.size_push]; exact Nat.le_refl _)) ⟨bk, B.glob, Nat.ne_of_lt (Nat.lt_succ_self _), gx⟩
 have S₂ : Step no σ (aY (aY σ s.heap.objs.size (.ns [])) (s.heap.objs.size + 1) (.inst s.heap.objs.size)) s.heap (cf s.heap bk) :=
  (Step.addPush (o := .ns [])).trans (.add (fun _ _ e => Heap.get?_push_of_some _ e) (by unfold cf; simp only [Heap.size_push]; omega) (by rw [Heap.size_push]; exact Nat.le_refl _))
 obtain ⟨hh, g, d, tk, os⟩ := s
 refine d6 hcl fun nm q' bs sn sub col dd k0 k1 k2 k3 k5 hC => ?_
 refine pL hC hcl.ns hmf hfh hfc ?_
 refine wpAny_call (hS _ _ _ [.ref (hh.objs.size + 1)] [.ref (hh.objs.size + 1)] _ (fun r s' => r = .none ∧ P (.ref (hh.objs.size + 1)) s') E ?_ R₂ (.cons (.ref _) .nil) hq fun v w σ' s' hv R' S' q' => ?_)
 ·refine ⟨?_, ?_, ?_⟩
  ·exact ao.handled
  ·have := ao.depth
   show A.depth + 1 + 3 * (j + 1) + 3 < recursionLimit
   omega
  ·have := ao.units
   have e : (A.under (.builtin "type.__call__" ⟨[.ref bk], []⟩)).units ≤ A.units + 5 := by
    simp only [Around.under]
    show A.units + _ ≤ A.units + 5
    exact Nat.add_le_add_left (show (Code.builtin "type.__call__" { pos := [Value.ref bk] }).cUnits ≤ 5 from Nat.le_of_ble_eq_true rfl) _
   omega
 ·obtain ⟨rfl, q'⟩ := q'
  cases hv
  exact ⟨rfl, hP _ _ σ' s' (.ref _) R' (S₂.trans S') q'⟩
end
end Mine
end
noncomputable section
namespace Mine
open PySem PySem.W PyProof.Rows PySem.Calls
noncomputable def ce (kvs : List (Int × V)) (k : Int) (v : V) : List (Int × V) :=
 if kvs.any (fun kv => kv.1 = k) then kvs.map (fun kv => if kv.1 = k then (kv.1, v) else kv) else kvs ++ [(k, v)]
noncomputable def nK (kvs : List (Int × V)) (k : Int) : Option V := (kvs.find? fun kv => kv.1 = k).map (·.2)
section
variable {aS : Addr} {h : Heap}
theorem PRel.anyI {a : List (Int × V)} {b : List (Int × Value)} (k : Int) (x : PRel aS h a b) : (a.any fun kv => kv.1 = k) = (b.any fun kv => kv.1 = k) :=
 x.ind (P := fun a b => (a.any fun kv => kv.1 = k) = (b.any fun kv => kv.1 = k)) rfl fun _ _ _ _ _ _ _ e => congrArg _ e
theorem PRel.appendI {a a' : List (Int × V)} {b b' : List (Int × Value)} (x : PRel aS h a b) (y : PRel aS h a' b') : PRel aS h (a ++ a') (b ++ b') :=
 x.ind (P := fun a b => PRel aS h (a ++ a') (b ++ b')) y fun _ _ _ _ _ v _ e => by
  rw [List.cons_append, List.cons_append]; exact And.intro rfl (And.intro v e)
theorem PRel.mapSetI {k : Int} {v : V} {w : Value} (hv : VRel aS h v w) {a : List (Int × V)} {b : List (Int × Value)} (x : PRel aS h a b) : PRel aS h (a.map fun kv => if kv.1 = k then (kv.1, v) else kv) (b.map fun kv => if kv.1 = k then (kv.1, w) else kv) := by
 refine x.ind (P := fun a b => PRel aS h (a.map fun kv => if kv.1 = k then (kv.1, v) else kv) (b.map fun kv => if kv.1 = k then (kv.1, w) else kv)) trivial fun j u z r r' q _ e => ?_
 rw [List.map_cons, List.map_cons]
 by_cases c : j = k
 ·rw [if_pos c, if_pos c]; exact And.intro rfl (And.intro hv e)
 ·rw [if_neg c, if_neg c]; exact And.intro rfl (And.intro q e)
theorem PRel.storedI {k : Int} {v : V} {w : Value} {a : List (Int × V)} {b : List (Int × Value)} (x : PRel aS h a b) (hv : VRel aS h v w) : PRel aS h (ce a k v) (PySem.stored b k w) := by
 unfold ce PySem.stored
 rw [x.anyI k]
 split
 ·exact x.mapSetI hv
 ·exact x.appendI ⟨rfl, hv, trivial⟩
theorem PRel.noneI {k : Int} {a : List (Int × V)} {b : List (Int × Value)} (x : PRel aS h a b) : (nK a k).isSome = (valueAt b k).isSome := by
 refine x.ind (P := fun a b => (nK a k).isSome = (valueAt b k).isSome) rfl fun j u z r r' q _ e => ?_
 unfold nK valueAt
 by_cases c : j = k
 ·rw [List.find?_cons_of_pos (by simpa using c), List.find?_cons_of_pos (by simpa using c)]; rfl
 ·rw [List.find?_cons_of_neg (by simpa using c), List.find?_cons_of_neg (by simpa using c)]
  exact e
end
section
variable {C : Cx} {p : Program} {sc : Scope} {k : Nat}
theorem kG (x : Int) (t : Tok) : (intKind C.prog C.w).is x (.int x t) = true := intKind_is _ _ _ _
theorem nY {h : Heap} {a : Addr} {kws : List (Int × Value)} {ep : Nat} (x : h.DictAt (intKind C.prog C.w) a kws ep) : ∀ o, h.get? a = some o → ¬ fU o := by
 intro o ho
 obtain ⟨o', es, ho', hc, hd, _⟩ := x
 rw [ho] at ho'; cases ho'
 simp [fU, hd]
theorem lX (kvs : List (Int × V)) (x : Int) (v : V) : (ce kvs x v).length ≤ kvs.length + 1 := by
 unfold ce; split <;> simp
noncomputable def t7 (o i v : V) (σ : ah) (Q : ah → Prop) : Prop := isR o fun a => isI i fun k => ∃ kvs ep, σ a = some (.idict kvs ep) ∧ kvs.length < 16777216 ∧ ∀ ep', Q (aY σ a (.idict (ce kvs k v) ep'))
theorem sB : o4 C k t7 := by
 intro A s σ o i v wo wi w Q P E ao R vo vi vv q hP
 obtain ⟨a, rfl, q1⟩ := isR.elim q
 obtain ⟨x, rfl, kvs, ep, hx, hz, q⟩ := isI.elim q1
 ·cases vo; cases vi
  obtain ⟨_, kws, h1, h2⟩ := R.view _ _ hx
  have hl := h2.length
  refine wpAny_setItem_pairs (knd := intKind C.prog C.w) (kG x _) h1.dictOf (fun h' hd' hs' => ?_) (by rw [sizeLine_eq, ← hl]; omega)
  obtain ⟨ep', hat⟩ := hd'.dictAt
  have kt : a0 s.heap h' := fun b o eb ht => hs'.extBut b o (by rintro rfl; exact nY h1 o eb ht) eb
  have vl := lX kvs x v
  exact hP (aY σ a (.idict (ce kvs x v) ep')) _ (R.change (tk := s.toks + 1) hx hs' ⟨by omega, _, hat, (h2.storedI vv).keep kt⟩) (.change hx hs') (q ep')
noncomputable def qO : O2 := fun i o σ Q => isI i fun x => isR o fun a => ∃ kvs ep, σ a = some (.idict kvs ep) ∧ Q (.bool (nK kvs x).isSome) σ
theorem ux (O : C.Ok) : fT C k (compareOp .In) qO := by
 intro A s σ a b wa wb Q P E ao R va vb q hP
 obtain ⟨x, rfl, q1⟩ := isI.elim q
 obtain ⟨a, rfl, kvs, ep, hx, q⟩ := isR.elim q1
 ·cases va; cases vb
  obtain ⟨_, kws, h1, h2⟩ := R.view _ _ hx
  refine wpAny_in_of (knd := intKind C.prog C.w) (kG x _) (O.noMods (R.apart a (by rw [hx]; simp))) h1.dictOf.mapOf ?_
  rw [← h2.noneI]
  exact hP _ _ σ _ (.bool _) (R.tok _) Step.refl q
end
end Mine
end
noncomputable section
set_option maxRecDepth 100000
namespace Mine
open PySem PySem.W PyProof.Rows PySem.Calls
section
variable {C : Cx} {p : Program} {sc : Scope} {k : Nat}
structure HQ (C : Cx) (sc : Scope) (e : Expr) (T : ET) : Prop where
 run : ∀ (env : Env) (A : Around) (s : Shared) (m : bb) (σ : ah) (Q : V → ah → Prop) (P : Value → Shared → Prop) (E : Value → Shared → Prop),
  EnvOk env sc → RelG C σ s → FrameRel C env m σ s.heap → T m σ Q → (∀ v w tk, VRel C.aS s.heap v w → Q v σ → P w { s with toks := tk }) → wpAny (model C.prog C.w) A (eval e env) P E s
theorem tf {x : String} {pos : Pos} (h : sc.names.lookup (Str.ofString x) = some .local) (hd : (Str.ofString x == ("__debug__" : Str)) = false) : HQ C sc (.Name (Str.ofString x) pos) (ae x) := by
 refine ⟨?_⟩; intro env A s m σ Q P E en R F q₀ hP
 obtain ⟨v, hv, q⟩ := q₀.elim
 obtain ⟨mm, hn, hm⟩ := F.ns
 obtain ⟨w, hw, hr⟩ := hm x v hv (en.of h)
 exact wpAny_Name (wpAny_loadName_local en.k (en.of h) hn hw (hP v w s.toks hr q)) hd
theorem tg {b : Bool} {n : Nat} {pos : Pos} : HQ C sc (.Constant (.bool b) n pos) (aw (.bool b)) := by
 refine ⟨?_⟩; intro env A s m σ Q P E en R F q hP
 exact wpAny_Constant_bool (hP _ _ s.toks (.bool b) q)
noncomputable def v8 (kvs : List (Int × V)) (σ : ah) (Q : V → ah → Prop) : Prop := ∀ a ep, σ a = Option.none → Q (.ref a) (aY σ a (.idict kvs ep))
noncomputable def kZ (T U : ET) : ET := fun m σ Q => T m σ fun v σ₁ => U m σ₁ fun u σ₂ => ∃ i, v = .int i ∧ v8 [(i, u)] σ₂ Q
theorem qh {key val : Expr} {pos : Pos} {T U : ET} (hk : HQ C sc key T) (hv : HQ C sc val U) : HE C sc k (.Dict [some key] [val] pos) (kZ T U) := by
 refine ⟨?_⟩; intro env A s m σ Q P E en ao R F q hP
 have hn := bC s.heap
 have R₀ : RelG C σ { s with heap := s.heap.push { cls := .type "dict", data := .dict #[] } } := R.grow (tk := s.toks) aV
 have F₀ : FrameRel C env m σ (s.heap.push { cls := .type "dict", data := .dict #[] }) := F.step R .push
 refine wpAny_Dict_walk (knd := intKind C.prog C.w) rfl rfl (by simp) (by simp) (pairTrees_cons_walk (hk.run env A _ m σ _ _ E en R₀ F₀ q fun v w tk hvr q₁ => hv.run env A _ m σ _ _ E en (R₀.tok tk) F₀ q₁ fun u wu tk' hu q₂ => pairTrees_nil_walk ?_))
 obtain ⟨i, rfl, q₂⟩ := q₂
 cases hvr
 refine ⟨[(i, wu)], ⟨kG i _, rfl, trivial⟩, Heap.DictOf.new s.heap, fun h' hd hs => ?_⟩
 have hm : merged ([] : List (Int × Value)) [(i, wu)] = [(i, wu)] := by simp [merged, stored]
 rw [hm] at hd
 obtain ⟨ep, hat⟩ := hd.dictAt
 have old : ∀ b o, s.heap.get? b = some o → h'.get? b = some o := fun b o e => (hs.2 b (Nat.ne_of_lt (Heap.lt_size e))).trans (aV b o e)
 have kt : a0 (s.heap.push { cls := .type "dict", data := .dict #[] }) h' := fun b o e ht => (hs.2 b (by
  rintro rfl
  rw [Heap.get?_push_size _ rfl] at e; cases e
  obtain ⟨_, _, _, z, _⟩ := ht; cases z)).trans e
 have hz : s.heap.objs.size ≤ h'.objs.size := by
  have h1 : h'.objs.size = (s.heap.push { cls := .type "dict", data := .dict #[] }).objs.size := hs.1
  have h2 : (s.heap.push { cls := .type "dict", data := .dict #[] }).objs.size = s.heap.objs.size + 1 := Heap.size_push _ _
  omega
 exact hP (.ref _) _ (aY σ s.heap.objs.size (.idict [(i, u)] ep)) _ (.ref _) (R.add (tk := tk' + 1) old hn ⟨by simp, _, hat, rfl, hu.keep kt, trivial⟩) (.add old hz (Nat.le_refl _)) (q₂ _ ep (R.freshNone hn))
noncomputable def jE (ks : List Int) : List Int := ks.mergeSort fun a b => decide (a ≤ b)
theorem eX (xs : List Int) : (jE xs).Perm xs := List.mergeSort_perm _ _
theorem gW (xs : List Int) : (jE xs).Pairwise (· ≤ ·) := by
 have := List.pairwise_mergeSort (le := fun a b : Int => decide (a ≤ b)) (fun a b c h1 h2 => by simp at *; omega) (fun a b => by simp; omega) xs
 exact this.imp fun h => by simpa using h
theorem dA : ∀ {a b : List Int}, a.Perm b → a.Pairwise (· ≤ ·) → b.Pairwise (· ≤ ·) → a = b
 | [], _, p, _, _ => p.nil_eq
 | x :: r, b, p, ha, hb => by
  cases b with
  | nil => exact absurd p.length_eq (by simp)
  | cons y t =>
   have hx : x ∈ y :: t := p.mem_iff.mp (.head _)
   have hy : y ∈ x :: r := p.mem_iff.mpr (.head _)
   have e : x = y := by
    rcases List.mem_cons.mp hx with h | h
    ·exact h
    ·rcases List.mem_cons.mp hy with h' | h'
     ·exact h'.symm
     ·exact Int.le_antisymm ((List.pairwise_cons.mp ha).1 y h') ((List.pairwise_cons.mp hb).1 x h)
   subst e
   rw [dA (List.Perm.cons_inv p) (List.pairwise_cons.mp ha).2 (List.pairwise_cons.mp hb).2]
theorem lZ {aS : Addr} {h : Heap} {ys : List Int} {ws : List Value} (x : IntsAre ws ys) : VRels aS h (ys.map .int) ws := by
 induction x with
 | nil => exact .nil
 | cons y t r ih => exact .cons (.int y t) ih
theorem i5 {aS : Addr} {h : Heap} : ∀ {ys : List Int} {ws : List Value}, VRels aS h (ys.map .int) ws → IntsAre ws ys
 | [], _, r => by rw [r.inv0]; exact .nil
 | y :: ys, _, r => by
  obtain ⟨w, ws, rfl, h1, r2⟩ := r.invC
  obtain ⟨t, rfl⟩ := h1.invInt
  exact .cons y t (i5 r2)
theorem l0 {ys : List Int} {ws : List Value} (x : IntsAre ws ys) : ws.length = ys.length := by
 induction x with
 | nil => rfl
 | cons y t r ih => exact congrArg (· + 1) ih
theorem iO {A : Around} {s : Shared} {σ : ah} {r : Value} {Q : V → ah → Prop} {P : Value → Shared → Prop} {E : Value → Shared → Prop} {ks : List Int} (ao : AOk C A k) (R : RelG C σ s)
  (hcol : ∀ R' : List Value → Shared → Prop, (∀ (h' : Heap) (tk : Nat) (d : Drawn) (vs : List Value) (ks' : List Int), (∀ b o, s.heap.get? b = some o → h'.get? b = some o) → s.heap.objs.size ≤ h'.objs.size → IntsAre vs ks' → ks'.Perm ks → R' vs { s with heap := h', toks := tk, drawn := d }) →
   wpAny (model C.prog C.w) A.in1 (collect r) R' E s) (hz : ks.length < 64)
  (q : cR ((jE ks).map .int) σ Q) (hP : tA C σ s Q P) : wpAny (model C.prog C.w) A (PySem.call (.builtin "sorted") [r]) P E s := by
 refine call_function_entry kind_sorted plain_sorted entry_sorted (args_sorted1 _) ?_
 unfold Builtin.«sorted»
 refine wpAny_bind (m := checkCount "sorted" 1 1 _) (wpAny_pure ?_)
 refine wpAny_bind (hcol _ fun h' tk d vs ks' hk hsz hs hp => ?_)
 have hvl : vs.length = ks.length := by rw [← hp.length_eq, l0 hs]
 refine wpAny_bind (wpAny_newList ?_ (by rw [hvl, sizeLine_eq]; omega))
 have hoL : (h'.push (seqObj "list" vs.toArray 0)).get? h'.objs.size = some (seqObj "list" vs.toArray 0) := Heap.get?_push_size _ rfl
 refine wpAny_bind (wpAny_holding (wpAny_call_entry slot_list_sort ⟨_, hoL, rfl⟩ entry_list_sort (list_sort_tree hoL hs (by rw [hvl]; exact hz) fun out ss' h1 h2 h3 => ⟨_, rfl, ?_⟩) (args_list_sort _)))
 refine wpAny_pure ⟨_, rfl, ?_⟩
 have hsr : ss' = jE ks := dA ((h2.trans hp).trans (eX ks).symm) h3 (gW ks)
 subst hsr
 obtain ⟨e, he⟩ := sortedHeap_at (out := out) hoL
 have hk2 : ∀ b o, s.heap.get? b = some o → (sortedHeap (h'.push (seqObj "list" vs.toArray 0)) h'.objs.size vs out).get? b = some o := fun b o eb => by
  have hb := Heap.lt_size (hk b o eb)
  rw [sortedHeap_old (Nat.ne_of_lt hb) (by rw [Heap.size_push]; exact Nat.lt_succ_of_lt hb)]
  exact Heap.get?_push_of_some _ (hk b o eb)
 have hn : s.heap.get? h'.objs.size = Option.none := aA hsz
 have hsz2 : s.heap.objs.size ≤ (sortedHeap (h'.push (seqObj "list" vs.toArray 0)) h'.objs.size vs out).objs.size := Nat.le_trans hsz (Nat.le_of_lt (Heap.lt_size he))
 exact hP (.ref h'.objs.size) (.ref h'.objs.size) (aY σ h'.objs.size (.list ((jE ks).map .int))) _ (.ref _)
  ((R.draw d).add (tk := tk) (s := { s with drawn := d }) hk2 hn ⟨by rw [List.length_map, (eX ks).length_eq]; omega, out.toList, ⟨e, by simpa using he⟩, lZ h1⟩) (.add hk2 hsz2 hsz) (q _ (R.freshNone hn))
theorem pP {s : Shared} {kvs : List (Int × V)} {kws : List (Int × Value)} {vs : List Value} (h2 : PRel C.aS s.heap kvs kws) (hl : vs.length = kws.length) (hv : ∀ (j : Nat) (v : Value), vs[j]? = some v → ∃ k x, kws[j]? = some (k, x) ∧ (intKind C.prog C.w).is k v = true) : IntsAre vs (kvs.map (·.1)) := by
 have hkeys : kvs.map (·.1) = kws.map (·.1) := by
  clear hl hv
  induction kvs generalizing kws with
  | nil => cases kws with | nil => rfl | cons _ _ => exact h2.elim
  | cons q r ih => cases kws with
   | nil => exact h2.elim
   | cons q' r' => obtain ⟨e, _, h⟩ := h2; simp only [List.map_cons]; rw [ih h]; exact congrArg (· :: _) e
 rw [hkeys]
 clear h2 hkeys
 induction kws generalizing vs with
 | nil => have : vs = [] := List.length_eq_zero_iff.mp (by simpa using hl); subst this; exact .nil
 | cons q kws ih =>
  match vs, hl with
  | v :: vs, hl =>
   obtain ⟨ky, x, e1, e2⟩ := hv 0 v rfl
   simp at e1
   subst e1
   obtain ⟨t, rfl⟩ := Value.isInt_shape e2
   exact .cons ky t (ih (by simpa using hl) fun j v e => hv (j + 1) v (by simpa using e))
noncomputable def kY (T : ET) : ET := fun m σ Q => T m σ fun v σ₁ => ∃ a kvs ep, v = .ref a ∧ σ₁ a = some (.idict kvs ep) ∧ kvs.length < 64 ∧ cR ((jE (kvs.map (·.1))).map .int) σ₁ Q
theorem ju (G : Gl C p) (hpl : C.held = Option.none) {np pos ap cp : Pos} {o : Expr} {T : ET} (hn : sc.names.lookup (Str.ofString "sorted") = some .globalImplicit) (ho : HE C sc k o T)
  (hbase : ∀ env, attributeBase o (Str.ofString "keys") env (eval o env) = eval o env) (hline : (ap.endLine == cp.line) = true) :
  HE C sc k (.Call (.Name (Str.ofString "sorted") np) [.Call (.Attribute o (Str.ofString "keys") ap) [] [] cp] [] pos) (kY T) := by
 refine ⟨?_⟩; intro env A s m σ Q P E en ao R F q hP
 have O := G.ok
 refine wpAny_Call_NameR (Calls.Name_function_global en.k (en.of hn) (Calls.loadGlobal_builtin (mg := C.mg) (mb := C.mb) (by rw [en.globals]; exact O.g.keeps R.base) (G.free _ (by decide)) (by rw [en.builtins]; exact O.b.keeps R.base) (G.blt gM (by decide)) ?_) rfl)
 refine Calls.callWith_builtin (bh rfl) (bn rfl ?_)
 show wpAny _ A (spliced ((false, eval (.Call (.Attribute o (Str.ofString "keys") ap) [] [] cp) env) :: backTo pos (starEach [] env))) _ E s
 refine Calls.spliced_cons ?_
 refine wpAny_Call_method (T := "dict") (id := "dict.keys") (hbase env) rfl hline _root_.PySem.F.plainAttrs_dict _root_.PySem.F.slot_dict_keys _root_.PySem.F.type_dict_keys ?_
 refine ho.run env A s m σ _ _ E en ao R F q fun v w σ₁ s₁ hv R₁ S₁ q₁ => ?_
 obtain ⟨a, kvs, ep, rfl, hx, hz64, q₁⟩ := q₁
 cases hv
 obtain ⟨hz, kws, h1, h2⟩ := R₁.view _ _ hx
 refine ⟨h1.dictOf.typeIs, h1.dictOf.mapOf.noDict, ?_⟩
 show wpAny _ _ (callWith cp (.builtin "dict.keys") [.ref a] [] []) _ E s₁
 refine method_meetsIn _root_.PySem.F.slot_dict_keys _root_.PySem.F.entry_dict_keys rfl (PySem.evalArgs_none ⟨rfl, h1.dictOf.typeIs, _root_.PySem.F.args_dict_keys_1 _, _, kdl_meets_keys (intKind C.prog C.w) a (O.noMods (R₁.apart a (by rw [hx]; simp))), ⟨kws, h1.dictOf⟩, ?_⟩)
 refine Calls.spliced_nil ?_
 show wpAny _ A (PySem.call (.builtin "sorted") [.ref s₁.heap.objs.size]) P E _
 have hl := h2.length
 have R₂ : RelG C σ₁ { s₁ with heap := s₁.heap.push { cls := .type "dict_keys", data := .fields #[.ref a] } } := R₁.grow (tk := s₁.toks) aV
 refine iO (ks := kvs.map (·.1)) ao R₂ (fun R' hR => be (kdu_collect (kdl_keys (knd := intKind C.prog C.w) (kvs := kws) (ep := ep) (r := s₁.heap.objs.size) (d := a)) (by show A.handled = _; exact ao.none hpl)
  ⟨⟨_, Heap.get?_push_size _ rfl, rfl, rfl⟩, h1.push _⟩ (kdl_size (by omega)) fun h' tk acc hk hacc => ?_)) (by simpa using hz64) q₁ fun v w σ' s' hv' R' S' q' => hP v w σ' s' hv' R' ((S₁.trans .push).trans S') q'
 intro hsz
 exact hR h' tk s₁.drawn acc.toList _ hk hsz (pP h2 (by rw [Array.length_toList]; exact hacc.1) fun j v e => hacc.2 j v (by rw [← Array.getElem?_toList]; exact e)) (List.Perm.refl _)
noncomputable def kA : bK := fun vs σ Q => onR vs fun a => ∃ ns : List Int, σ a = some (.list (ns.map .int)) ∧ 0 < ns.length ∧ ∀ M, M ∈ ns → (∀ b, b ∈ ns → b ≤ M) → Q (.int M) σ
theorem sD (hz : C.held = Option.none) : mY C k (fun ws => PySem.call (.builtin "max") ws) kA := by
 intro A s σ vs ws Q P E ao R hv q hP
 obtain ⟨a, rfl, ns, hx, hne, q⟩ := onR.elim q
 ·obtain ⟨wa, rfl, h1⟩ := hv.inv1
  cases h1
  obtain ⟨_, us, h2, h3⟩ := R.view _ _ hx
  have hI := i5 h3
  obtain ⟨xs, e⟩ := hI.allInts.items
  have hns : ns = xs.toList.map (·.1) := by
   rw [← hI.numsOf, ← nums_intItems, ← e]
  have hsz : 0 < xs.size := by
   have h3 := hne; rw [hns, List.length_map, Array.length_toList] at h3; exact h3
  have hl := h2.isList
  rw [e] at hl
  refine be (max_intList (ao.none hz) hl hsz fun v h' tk hv hk => ?_)
  intro hsz'
  obtain ⟨t, rfl⟩ := intItems_at hv
  obtain ⟨h4, h5⟩ := argBest_gt (numAt xs) (xs.size - 1)
  refine hP _ _ σ _ (.int _ _) (R.grow hk) (.grow hk hsz') (q _ ?_ fun b hb => ?_)
  ·rw [hns, numAt_eq]; exact getD_mem (by rw [List.length_map, Array.length_toList]; omega)
  ·rw [hns] at hb
   obtain ⟨j, hj, rfl⟩ := mem_getD hb
   rw [List.length_map, Array.length_toList] at hj
   rw [← numAt_eq]; exact h5 j (by omega)
theorem tq (G : Gl C p) (hz : C.held = Option.none) {np pos : Pos} {es : List Expr} {L : LT} (hn : sc.names.lookup (Str.ofString "max") = some .globalImplicit) (hl : HL C sc k es L) (hp : aJ es = true) : HE C sc k (.Call (.Name (Str.ofString "max") np) es [] pos) (aE kA L) :=
 cq G.ok (sD hz) hn (G.free _ (by decide)) (G.blt rS (by decide)) rfl hl hp
end
end Mine
end
noncomputable section
set_option maxRecDepth 100000
namespace Mine
open PySem PySem.W PyProof.Rows PySem.Calls
section
variable {C : Cx} {p : Program} {sc : Scope} {k : Nat}
noncomputable def da : ST := fun _ _ _ => False
theorem b7 {st : Stmt} : HS1 C sc k st da := ⟨fun _ _ _ _ _ _ _ _ _ _ _ _ q _ => q.elim⟩
section
variable {m : bb} {σ : ah} {Q : Fl → bb → ah → Prop} {X : XT} {R : V → ah → Prop} {Y : String → ah → Prop}
@[simp] theorem vp : da m σ Q = False := rfl
end
noncomputable def jS (a : Int) : List V := (List.range (a + 1).toNat).map fun (i : Nat) => .int (a - i)
theorem sI (hz : C.held = none) (I : Addr) (a : Int) (n : Nat) : It C k I ((List.range n).map fun (i : Nat) => V.int (a - i)) (fun _ => True) (fun i h => IsRangeIter h I (a + (i : Nat) * (-1)) ((n : Int) - (i : Nat)) (-1)) where
 frame := fun i h h' st kI _ => kI _ st
 live := fun i h st => ⟨_, st, fun ⟨_, _, _, h2⟩ => by simp at h2, fun v h2 => by simp at h2⟩
 flds := fun i h st o' ho' es ep z => by rw [st] at ho'; cases ho'; cases z
 next := fun A σ s i v Q E ao R inv st hv hQ => by
  rw [List.getElem?_map] at hv
  obtain ⟨j, hj, rfl⟩ := Option.map_eq_some_iff.mp hv
  have hjn := List.getElem?_eq_some_iff.mp hj
  obtain ⟨hlt, hji⟩ := hjn
  simp at hji hlt
  subst hji
  refine wpAny_pyNext_range_item st (by omega) fun h' hit' hs' => ?_
  have e1 : a + ((i + 1 : Nat) : Int) * (-1) = a + (i : Int) * (-1) + (-1) := by push_cast; omega
  have e2 : (n : Int) - ((i + 1 : Nat) : Int) = (n : Int) - (i : Int) - 1 := by push_cast; omega
  refine hQ _ h' _ ?_ (by rw [e1, e2]; exact hit') hs'.extBut
  have e3 : a + (i : Int) * (-1) = a - i := by omega
  rw [e3]; exact .int _ _
 done := fun A σ s Q E ao R inv st hQ => wpAny_pyNext_range_end (ao.none hz) st (by simp) fun h' hx => hQ h' s.toks hx
 self := fun A s i Q E st q => wpAny_pyIter_rangeiter st q
 own := fun A s i t w Q E st q => b3 st rfl (by decide) q
noncomputable def onH (vs : List V) (F : Int → List V → Prop) : Prop := match vs with | a :: r => isI a fun x => F x r | _ => False
theorem onH.elim {vs : List V} {F : Int → List V → Prop} (h : onH vs F) : ∃ x r, vs = .int x :: r ∧ F x r := by
 rcases vs with _ | ⟨a, r⟩
 ·exact False.elim h
 ·obtain ⟨x, rfl, h⟩ := isI.elim h; exact ⟨x, r, rfl, h⟩
noncomputable def nW (vs : List V) (σ : ah) (Q : List V → (ah → Prop) → ah → Prop) : Prop :=
 onH vs fun a r => onH r fun b r => onI r fun c => (b = -1 ∧ c = -1 ∧ 0 ≤ a ∧ a < 1000000) ∧ Q (jS a) (fun _ => True) σ
noncomputable def rt (L : LT) : IT := fun m σ Q => L m σ fun vs σ' => nW vs σ' Q
theorem dX {a : Int} (h : 0 ≤ a) : Builtin.Range.rangeSize a (-1) (-1) = a + 1 := by
 unfold Builtin.Range.rangeSize
 simp
 omega
theorem tj (G : Gl C p) (hz : C.held = none) {np pos : Pos} {es : List Expr} {L : LT} (hn : sc.names.lookup (Str.ofString "range") = some .globalImplicit) (hl : HL C sc k es L) (hp : aJ es = true) :
  HI C sc k (.Call (.Name (Str.ofString "range") np) es [] pos) (rt L) := by
 refine ⟨?_⟩; intro env A s m σ Q P E en ao R F q hP
 have O := G.ok
 refine wpAny_Call_NameR (Calls.Name_function_global en.k (en.of hn) (Calls.loadGlobal_builtin (mg := C.mg) (mb := C.mb) (by rw [en.globals]; exact O.g.keeps R.base) (G.free _ (by decide)) (by rw [en.builtins]; exact O.b.keeps R.base) (G.blt mz (by decide)) ?_) (by decide))
 refine PySem.callWith_type (bh hp) (bn hp (hl.run env A s m σ pos _ _ E en ao R F q fun vs ws σ₁ s₁ hv R₁ S₁ q₁ => ?_))
 have fr : s.heap.objs.size ≤ s₁.heap.objs.size + 1 := Nat.le_succ_of_le S₁.size
 have hσ : σ₁ (s₁.heap.objs.size + 1) = Option.none := R₁.freshNone (aA (Nat.le_succ _))
 show wpAny _ A (PySem.call (.type "range") ([] ++ ws)) _ _ _
 rw [List.nil_append]
 obtain ⟨a, _, rfl, q2⟩ := onH.elim q₁
 obtain ⟨b, _, rfl, q3⟩ := onH.elim q2
 obtain ⟨c, rfl, q4⟩ := onI.elim q3
 ·obtain ⟨⟨rfl, rfl, h0, h9⟩, q5⟩ := q4
  cases hv with | cons h1 r => cases r with | cons h2 r => cases r with | cons h3 r => cases r with | nil => cases h1 with | int a t => cases h2 with | int b u => cases h3 with | int c v =>
   refine call_range_3 (by decide) ?_ (Or.inl (PyProof.noPylong_small (by omega)))
   refine wpAny_pyIter_range (IsRange.new ..) (by
    unfold Builtin.Range.small
    rw [dX h0]
    simp only [Builtin.Range.rangeFitsLong, Bool.and_eq_true, Bool.or_eq_true, decide_eq_true_eq, beq_iff_eq, show ¬ ((-1 : Int) > 0) by decide, if_false]
    simp
    omega) ?_
   have hsz : Builtin.Range.rangeSize a (-1) (-1) = (((a + 1).toNat : Nat) : Int) := by rw [dX h0]; omega
   have hit := sI (C := C) (k := k) hz (s₁.heap.objs.size + 1) a (a + 1).toNat
   have R₂ : RelG C σ₁ { s₁ with heap := (s₁.heap.push { cls := .type "range", data := .fields #[.int a t, .int (-1) u, .int (-1) v] }).push { cls := .type "range_iterator", data := .fields #[rawInt a, rawInt (Builtin.Range.rangeSize a (-1) (-1)), rawInt (-1)] }, toks := s₁.toks } :=
    R₁.grow fun _ _ e => aV _ _ (aV _ _ e)
   have e := Heap.get?_push_size (s₁.heap.push { cls := .type "range", data := .fields #[.int a t, .int (-1) u, .int (-1) v] }) (o := { cls := .type "range_iterator", data := .fields #[rawInt a, rawInt (Builtin.Range.rangeSize a (-1) (-1)), rawInt (-1)] }) rfl
   rw [Heap.size_push] at e
   have this := hP _ _ _ _ σ₁ _ hit (by
     show IsRangeIter ((s₁.heap.push { cls := .type "range", data := .fields #[.int a t, .int (-1) u, .int (-1) v] }).push { cls := .type "range_iterator", data := .fields #[rawInt a, rawInt (Builtin.Range.rangeSize a (-1) (-1)), rawInt (-1)] }) _ _ _ _
     unfold IsRangeIter
     rw [e, hsz]; simp) fr hσ R₂ ((S₁.trans .push).trans .push) q5
   rw [Heap.size_push]
   exact this
end
theorem MtAt.mk {C : Cx} (O : C.Ok) {bk N : Addr} {mN : Str → Option Value} (B : Bk C bk N mN) {K : Frag} (KX : K.In C.hB) {f : String} {xs : List String} {j : Nat} {spec : bK} {T : ST} {fa : Addr} {oc : Obj} {fd : FuncData} {body : List Stmt} {sc : Scope}
  (hm : K.lookup fa = some oc ∧ oc.cls = .type "function" ∧ oc.data = .func fd ∧ codeIn K fd.code fd.qualname = true ∧ fd.body = .stmts body ∧ fd.scope = sc ∧ fd.closure = [] ∧ fd.globals = mainGlobals ∧ fd.builtins = builtinsNs) (hn : nsIn K N (Str.ofString f) = some (some (.ref fa)))
  (hk : sc.kind = .function) (hfr : (sc.names.all fun q => q.2 != .free) = true) (hco : sc.isCoroutine = false) (hgen : sc.isGenerator = false) (hlen : True = True)
  (hbind : ∀ (ws : List Value), ws.length = xs.length → bindArgs fd ⟨ws, []⟩ = pure ((xs.map Str.ofString).zip ws))
  (hloc : (xs.all fun x => sc.names.lookup (Str.ofString x) == some .local || sc.names.lookup (Str.ofString x) == some .cell) = true)
  (hT : HS C sc j body T)
  (hspec : ∀ vs σ Q, spec vs σ Q → vs.length = xs.length ∧ T (aC xs vs aH) σ (fin Q)) : MtAt C mN j f spec := by
 obtain ⟨h1, h2, h3, h4, h5, h6, h7, h8, h9⟩ := hm
 refine ⟨fa, oc, fd, ?_, KX _ _ h1, h2, h3, FnSound.mk O (xs := xs) (KX _ _ h1) h3 (codeRec_of KX h4) h5 h6 h7 h8 h9 hk ?_ hco hgen hbind ?_ hT hspec⟩
 ·obtain ⟨o, es, ep, ho, hd, _, hf⟩ := B.cls.ns
  unfold nsIn at hn
  split at hn
  ·rename_i c d es' n' sl q
   have := KX _ _ q
   rw [ho] at this
   cases this
   cases hd
   split at hn
   ·rename_i en he
    have hv := Option.some.inj (Option.some.inj hn)
    rw [← hf, ← hv]
    unfold nsFind findBy
    rw [← Array.find?_toList, he]
    rfl
   ·split at hn <;> cases hn
  ·cases hn
 ·intro q hq
  have := List.all_eq_true.mp hfr q hq
  simpa using this
 ·intro x hx
  have := List.all_eq_true.mp hloc x hx
  simp only [Bool.or_eq_true, beq_iff_eq] at this
  exact this
end Mine
namespace Mine
open PySem PySem.W PyProof.Rows PySem.Calls
section
variable {C : Cx} {sc : Scope} {k : Nat}
end
end Mine
end
noncomputable section
set_option maxRecDepth 100000
namespace Mine
open PySem PySem.W PyProof.Rows PySem.Calls
section
variable {prog : Program} {w : World} {A : Around} {E : Value → Shared → Prop} {s : Shared}
end
section
variable {C : Cx} {p : Program} {sc : Scope} {k : Nat}
end
noncomputable def isC (d : Data) (f : ClassData → Bool) : Bool := match d with | .cls c => f c | _ => false
theorem isC.elim {d : Data} {f : ClassData → Bool} (h : isC d f = true) : ∃ c, d = .cls c ∧ f c = true := by
 cases d <;> first | exact Bool.noConfusion h | exact ⟨_, rfl, h⟩
noncomputable def hd1 {α : Type} (l : List α) (f : α → List α → Bool) : Bool := match l with | [] => false | a :: r => f a r
theorem hd1.elim {α : Type} {l : List α} {f : α → List α → Bool} (h : hd1 l f = true) : ∃ a r, l = a :: r ∧ f a r = true := by
 cases l with
 | nil => exact Bool.noConfusion h
 | cons a r => exact ⟨a, r, rfl, h⟩
noncomputable def yt (K : Frag) (Cl N : Addr) (cd : ClassData) : Bool := cd.mro == [.ref Cl, .type "object"] && cd.hasDict && !cd.abstract && !cd.hasDel && cd.ns == N && nsOkIn K N && ["__getattribute__", "__getattr__", "__setattr__", "trees", "made_of"].all (fun n => nsIn K N (Str.ofString n) == some none)
noncomputable def bkS (l : List (Option Value)) : Bool := hd1 l fun _ l => hd1 l fun _ l => hd1 l fun _ l => hd1 l fun _ l => hd1 l fun n l => n == some (.builtin "object.__new__") && hd1 l fun _ l => l.isEmpty
theorem bkS.elim {l : List (Option Value)} (h : bkS l = true) : ∃ k0 k1 k2 k3 k5, l = [k0, k1, k2, k3, some (.builtin "object.__new__"), k5] := by
 obtain ⟨k0, _, rfl, h0⟩ := hd1.elim h
 obtain ⟨k1, _, rfl, h1⟩ := hd1.elim h0
 obtain ⟨k2, _, rfl, h2⟩ := hd1.elim h1
 obtain ⟨k3, _, rfl, h3⟩ := hd1.elim h2
 obtain ⟨k4, _, rfl, h4⟩ := hd1.elim h3
 have h5 := (Bool.and_eq_true _ _).mp h4
 obtain ⟨k5, _, rfl, h6⟩ := hd1.elim h5.2
 rw [List.isEmpty_iff.mp h6, beq_iff_eq.mp h5.1]
 exact ⟨k0, k1, k2, k3, k5, rfl⟩
noncomputable def wL (K : Frag) (Cl N : Addr) : Bool := (K.lookup Cl).any fun o => o.cls == .type "type" && isC o.data (yt K Cl N) && bkS o.slots.toList
theorem rR {C : Cx} {K : Frag} {Cl N : Addr} (X : K.In C.hB) (q : wL K Cl N = true) (hg : C.mg (Str.ofString "Book") = some (.ref Cl)) : ∃ mN, Bk C Cl N mN := by
 obtain ⟨⟨c, dd, d, ⟨sl⟩⟩, ho, q⟩ := (Option.any_eq_true _ _).mp q
 rw [Bool.and_eq_true, Bool.and_eq_true, beq_iff_eq] at q
 obtain ⟨⟨q1, q2⟩, q3⟩ := q
 obtain ⟨cd, rfl, q⟩ := isC.elim q2
 obtain ⟨k0, k1, k2, k3, k5, rfl⟩ := bkS.elim q3
 cases q1
 obtain ⟨nm, bs, mro, ns, qn, hd, sn, sub, ab, col, yB⟩ := cd
 unfold yt at q
 simp only [Bool.and_eq_true, beq_iff_eq, Bool.not_eq_true'] at q
 obtain ⟨⟨⟨⟨⟨⟨rfl, rfl⟩, rfl⟩, rfl⟩, rfl⟩, hok⟩, hni⟩ := q
 exact ⟨_, hg, ⟨⟨nm, qn, bs, sn, sub, col, dd, k0, k1, k2, k3, k5, X _ _ ho⟩, .of_isNs (isNs_of_in X hok)⟩, fun n hn => nsMap_none_of_in X hok (beq_iff_eq.mp (List.all_eq_true.mp hni n hn))⟩
end Mine
end
noncomputable section
namespace Mine
open PySem PySem.W PyProof.Rows PySem.Calls
noncomputable def ln (x : String) (v : V) (σ : ah) (Q : V → ah → Prop) : Prop := ∃ a dx fs t, v = .ref a ∧ σ a = some (.inst dx) ∧ σ dx = some (.ns fs) ∧ fs.lookup x = some (.ref t) ∧ Q (.ref t) σ
noncomputable def rq (f : String) (v : V) (σ : ah) : Prop := ∃ a dx fs, v = .ref a ∧ σ a = some (.inst dx) ∧ σ dx = some (.ns fs) ∧ fs.lookup f = none
noncomputable def qC (v : V) (σ : ah) (Q : V → ah → Prop) : Prop := ∃ a kvs ep, v = .ref a ∧ σ a = some (.idict kvs ep) ∧ kvs.length < 64 ∧ cR ((jE (kvs.map (·.1))).map .int) σ Q
noncomputable def tI (x : String) (v o : V) (σ : ah) (F : ah → Prop) : Prop := ∃ a dx fs, o = .ref a ∧ σ a = some (.inst dx) ∧ σ dx = some (.ns fs) ∧ fs.length < 1000 ∧ F (aY σ dx (.ns ((x, v) :: fs)))
section
variable {m : bb} {σ : ah} {Q : V → ah → Prop} {X : String → ah → Prop} {R : Fl → bb → ah → Prop} {J : List V → (ah → Prop) → ah → Prop} {ns : List Int}
@[simp] theorem wD {x : String} {T : ET} : cj x T m σ Q = T m σ fun v σ' => ln x v σ' Q := rfl
@[simp] theorem vB {f : String} {spec : bK} {T : ET} {L : LT} : aU f spec T L m σ Q = T m σ fun v σ₁ => rq f v σ₁ ∧ L m σ₁ fun vs σ₂ => spec (v :: vs) σ₂ Q := rfl
@[simp] theorem vV {x : String} {T To : ET} : oy x T To m σ R = T m σ fun v σ₁ => To m σ₁ fun o σ₂ => tI x v o σ₂ fun σ₃ => R .next m σ₃ := rfl
theorem lI {x : String} {v : V} {a dx : Addr} {fs : List (String × V)} {F : ah → Prop} (h1 : σ a = some (.inst dx)) (h2 : σ dx = some (.ns fs)) (h3 : fs.length < 1000) (q : F (aY σ dx (.ns ((x, v) :: fs)))) : tI x v (.ref a) σ F := ⟨a, dx, fs, rfl, h1, h2, h3, q⟩
@[simp] theorem xn {spec : bK} : uT spec m σ Q = ∀ a dx, σ a = none → σ dx = none → dx ≠ a → spec [.ref a] (aY (aY σ dx (.ns [])) a (.inst dx)) fun r σ' => r = .none ∧ Q (.ref a) σ' := rfl
noncomputable def tR (v : V) (F : Int → Prop) : Prop := ∃ i, v = .int i ∧ F i
@[simp] theorem vx (i : Int) (F : Int → Prop) : tR (.int i) F = F i := propext ⟨fun ⟨_, e, h⟩ => by cases e; exact h, fun h => ⟨i, rfl, h⟩⟩
noncomputable def wj (v : V) (F : Str → Prop) : Prop := ∃ i, v = .str i ∧ F i
@[simp] theorem vu (i : Str) (F : Str → Prop) : wj (.str i) F = F i := propext ⟨fun ⟨_, e, h⟩ => by cases e; exact h, fun h => ⟨i, rfl, h⟩⟩
@[simp] theorem uU {T U : ET} : kZ T U m σ Q = T m σ fun v σ₁ => U m σ₁ fun u σ₂ => tR v fun i => v8 [(i, u)] σ₂ Q := rfl
@[simp] theorem uS {T : ET} : kY T m σ Q = T m σ fun v σ₁ => qC v σ₁ Q := rfl
theorem nj {a : Addr} {kvs : List (Int × V)} {ep : Nat} (h : σ a = some (.idict kvs ep)) (hz : kvs.length < 64) (q : cR ((jE (kvs.map (·.1))).map .int) σ Q) : qC (.ref a) σ Q := ⟨a, kvs, ep, rfl, h, hz, q⟩
@[simp] theorem wl {L : LT} : rt L m σ J = L m σ fun vs σ' => nW vs σ' J := rfl
@[simp] theorem x0 {a b c : Int} : nW [.int a, .int b, .int c] σ J = ((b = -1 ∧ c = -1 ∧ 0 ≤ a ∧ a < 1000000) ∧ J (jS a) (fun _ => True) σ) := rfl
theorem pp {a : Addr} {kvs : List (Int × V)} {ep : Nat} {x : Int} {v : V} {R : ah → Prop} (h : σ a = some (.idict kvs ep)) (hz : kvs.length < 16777216) (q : ∀ ep', R (aY σ a (.idict (ce kvs x v) ep'))) : t7 (.ref a) (.int x) v σ R := ⟨kvs, ep, h, hz, q⟩
theorem rs {a : Addr} {kvs : List (Int × V)} {ep : Nat} {x : Int} (h : σ a = some (.idict kvs ep)) (q : Q (.bool (nK kvs x).isSome) σ) : qO (.int x) (.ref a) σ Q := ⟨kvs, ep, h, q⟩
theorem rc {a : Addr} {ys : List Int} (h : σ a = some (.list (ys.map .int))) (hn : 0 < ys.length) (q : ∀ M, M ∈ ys → (∀ b, b ∈ ys → b ≤ M) → Q (.int M) σ) : kA [.ref a] σ Q := ⟨ys, h, hn, q⟩
end
theorem rJ {a : Int} {i : Nat} {v : V} (h : (jS a)[i]? = some v) : i < (a + 1).toNat ∧ v = .int (a - i) := by
 unfold jS at h
 rw [List.getElem?_map] at h
 obtain ⟨j, hj, rfl⟩ := Option.map_eq_some_iff.mp h
 obtain ⟨h1, h2⟩ := List.getElem?_eq_some_iff.mp hj
 simp at h1 h2
 subst h2
 exact ⟨by omega, rfl⟩
theorem rI (a : Int) : (jS a).length = (a + 1).toNat := by simp [jS]
theorem l5 (kvs : List (Int × V)) (x : Int) : (nK kvs x).isSome = decide (x ∈ kvs.map (·.1)) := by
 unfold nK
 rw [Option.isSome_map, Bool.eq_iff_iff, List.find?_isSome]
 simp
theorem cc (kvs : List (Int × V)) (k : Int) (v : V) : ∀ x, x ∈ (ce kvs k v).map (·.1) ↔ x = k ∨ x ∈ kvs.map (·.1) := by
 intro x
 unfold ce
 split
 ·rename_i h
  have e : (kvs.map fun kv => if kv.1 = k then (kv.1, v) else kv).map (·.1) = kvs.map (·.1) := by
   rw [List.map_map]; apply List.map_congr_left; intro q _; simp only [Function.comp]; split <;> rfl
  rw [e]
  have hk : k ∈ kvs.map (·.1) := by
   obtain ⟨q, hq, e⟩ := List.any_eq_true.mp h
   exact List.mem_map.mpr ⟨q, hq, by simpa using e⟩
  constructor
  ·exact .inr
  ·rintro (rfl | h)
   ·exact hk
   ·exact h
 ·simp only [List.map_append, List.mem_append, List.map_cons, List.map_nil, List.mem_singleton]
  constructor
  ·rintro (h | h)
   ·exact .inr h
   ·exact .inl h
  ·rintro (h | h)
   ·exact .inr h
   ·exact .inl h
theorem jD {kvs : List (Int × V)} {k : Int} {v : V} (h : (kvs.map (·.1)).Nodup) : ((ce kvs k v).map (·.1)).Nodup := by
 unfold ce
 split
 ·have e : (kvs.map fun kv => if kv.1 = k then (kv.1, v) else kv).map (·.1) = kvs.map (·.1) := by
   rw [List.map_map]; apply List.map_congr_left; intro q _; simp only [Function.comp]; split <;> rfl
  rw [e]; exact h
 ·rename_i hn
  rw [List.map_append, List.nodup_append]
  refine ⟨h, by simp, ?_⟩
  intro a ha b hb
  simp at hb
  subst hb
  rintro rfl
  obtain ⟨q, hq, e⟩ := List.mem_map.mp ha
  exact hn (List.any_eq_true.mpr ⟨q, hq, by simpa using e⟩)
end Mine
end
noncomputable section
set_option maxRecDepth 100000
namespace Mine
open PySem PySem.W PyProof.Rows PySem.Calls
section
variable {C : Cx} {p : Program} {sc : Scope} {k : Nat}
noncomputable def tL : O1 := fun v σ Q => isB v fun b => Q (.bool (!b)) σ
theorem ul : x8 C k (unaryOp .Not) tL := by
 intro A s σ a wa Q P E ao R va q hP
 obtain ⟨b, rfl, q⟩ := isB.elim q
 cases va
 exact PyProof.Rows.not_of (wpAny_truthy_bool (hP _ _ σ s (.bool _) R Step.refl q))
noncomputable def nv : O2 := fun a b σ Q => isR a fun l => isI b fun n => ∃ v, σ l = some (.list [v]) ∧ 0 ≤ n ∧ n ≤ 1000 ∧ cR (List.replicate n.toNat v) σ Q
theorem lJ (w : Value) : ∀ (n : Nat) (acc : Array Value), List.foldl (fun x y => x ++ y) acc (List.replicate n #[w]) = (acc.toList ++ List.replicate n w).toArray
 | 0, acc => by simp
 | n + 1, acc => by
  rw [List.replicate_succ, List.foldl_cons, lJ w n]
  simp [List.replicate_succ]
theorem lK {aS : Addr} {h : Heap} {v : V} {w : Value} (hv : VRel aS h v w) : ∀ n : Nat, VRels aS h (List.replicate n v) (List.replicate n w)
 | 0 => .nil
 | n + 1 => .cons hv (lK hv n)
theorem sC : fT C k (binaryOp .Mult) nv := by
 intro A s σ a b wa wb Q P E ao R va vb q hP
 obtain ⟨l, rfl, q⟩ := isR.elim q
 obtain ⟨n, rfl, v, hx, h0, h1, q⟩ := isI.elim q
 cases va; cases vb with | int n u =>
 obtain ⟨m, rfl⟩ := Int.eq_ofNat_of_zero_le h0
 have hm : m ≤ 1000 := Int.ofNat_le.mp h1
 obtain ⟨hz, ws, ⟨c, hl⟩, hv⟩ := R.view _ _ hx
 obtain ⟨w, rfl, hw⟩ := hv.inv1
 have hn := bC s.heap
 refine wpAny_binaryOp_repeat_ref (T := "list") (U := "int") (by decide) ⟨_, hl, rfl⟩ (fun s' => typeIs_int s' _ u) noFill_list_mul F.fills_int_mul F.slot_int_rmul repeat_list F.slot_int_index.lookup
  (call_meets F.slot_int_rmul (typeIs_int s _ u) F.entry_int_rmul (F.args_int_rmul_2 _ _) (int___rmul___int_list _ u l _ c)
   ⟨hl, rfl, ⟨_, hl, rfl⟩, call_meets F.slot_list_mul ⟨_, hl, rfl⟩ F.entry_list_mul (F.args_list_mul_2 _ _)
    (AutoListH.list___mul___list_int_3 l _ c _ u ?_ ?_ ?_) ⟨hl, ?_⟩⟩)
 ·simp [Builtin.List.listFitsIndex]; omega
 ·have e : (#[w] : Array Value).size * ((m : Nat) : Int).toNat = m := by simp
  rw [e]; omega
 ·simp [Builtin.List.listTooLong, sizeLine]; omega
 ·refine hP (.ref s.heap.objs.size) _ (aY σ s.heap.objs.size (.list (List.replicate m v))) _ (.ref _) (R.add (tk := s.toks) aV hn ⟨by rw [List.length_replicate]; exact Nat.le_trans hm (by decide), List.replicate m w, ⟨0, ?_⟩, (lK hw m).keep fun _ _ e _ => aV _ _ e⟩) .addPush (q _ (R.freshNone hn))
  have e : (List.replicate m w).toArray = List.foldl (fun x y => x ++ y) #[] (List.replicate m #[w]) := (lJ w m #[]).symm
  rw [e]
  exact Heap.get?_push_size _ rfl
end
end Mine
end
noncomputable section
namespace Mine
open PySem PySem.W PyProof.Rows PySem.Calls
inductive Same2 (F : V → V → Prop) : List V → List V → Prop
 | nil : Same2 F [] []
 | cons {a b : V} {xs ys : List V} (h : F a b) (r : Same2 F xs ys) : Same2 F (a :: xs) (b :: ys)
noncomputable def iS (a b : V) : Prop := ∃ i, a = .int i ∧ b = .int i
noncomputable def dS (σ : ah) (F : V → V → Prop) (a b : V) : Prop := ∃ p q xs ys, a = .ref p ∧ b = .ref q ∧ σ p = some (.list xs) ∧ σ q = some (.list ys) ∧ Same2 F xs ys
theorem jj : ∀ (l : List Nat), l.all (fun _ => true) = true
 | [] => rfl
 | _ :: r => jj r
section
variable {C : Cx} {sc : Scope} {k : Nat} {A : Around} {s : Shared} {σ : ah}
noncomputable def oe (C : Cx) (A : Around) (s : Shared) (F : V → V → Prop) : Prop := ∀ a b wa wb, F a b → VRel C.aS s.heap a wa → VRel C.aS s.heap b wb → SeqAt.EqAt A s wa wb true
theorem uP {F : V → V → Prop} (hF : oe C A s F) {xs ys : List V} {ws us : List Value} (h : Same2 F xs ys) : VRels C.aS s.heap xs ws → VRels C.aS s.heap ys us → ws.length = us.length ∧ ∀ (j : Nat) w u, ws[j]? = some w → us[j]? = some u → SeqAt.EqAt A s w u true := by
 induction h generalizing ws us with
 | nil => intro r1 r2; rw [r1.inv0, r2.inv0]; exact ⟨rfl, fun j w u h => nomatch h⟩
 | cons h r ih =>
  intro r1 r2
  obtain ⟨w, ws, rfl, v1, r1⟩ := r1.invC
  obtain ⟨u, us, rfl, v2, r2⟩ := r2.invC
  obtain ⟨e, ih⟩ := ih r1 r2
  refine ⟨congrArg (· + 1) e, fun j w' u' h1 h2 => ?_⟩
  cases j with
  | zero => cases h1; cases h2; exact hF _ _ _ _ h v1 v2
  | succ j => exact ih j w' u' h1 h2
theorem iA {F : V → V → Prop} (hF : oe C A s F) {xs ys : List V} {ws us : List Value} (h : Same2 F xs ys) (r1 : VRels C.aS s.heap xs ws) (r2 : VRels C.aS s.heap ys us) : ws.toArray.size = us.toArray.size ∧ ∀ j (h1 : j < ws.toArray.size) (h2 : j < us.toArray.size), SeqAt.EqAt A s ws.toArray[j] us.toArray[j] ((fun _ => true) j) := by
 obtain ⟨e, he⟩ := uP hF h r1 r2
 exact ⟨e, fun j h1 h2 => he j _ _ (List.getElem?_eq_getElem h1) (List.getElem?_eq_getElem h2)⟩
theorem kX : oe C A s iS := by
 rintro a b wa wb ⟨i, rfl, rfl⟩ va vb
 obtain ⟨t, rfl⟩ := va.invInt
 obtain ⟨u, rfl⟩ := vb.invInt
 have := SeqAt.EqAt.int_int (A := A) (s := s) i t i u
 rwa [beq_self_eq_true] at this
theorem rE (R : RelG C σ s) {F : V → V → Prop} (hF : oe C A.in1 s F) (hu : A.units < cLine) : oe C A s (dS σ F) := by
 rintro a b wa wb ⟨p, q, xs, ys, rfl, rfl, hp, hq, h⟩ va vb
 cases va; cases vb
 by_cases e : p = q
 ·subst e; exact SeqAt.EqAt.same _
 ·obtain ⟨_, ws, h1, h2⟩ := R.view _ _ hp
  obtain ⟨_, us, h3, h4⟩ := R.view _ _ hq
  obtain ⟨e1, e2⟩ := iA hF h h2 h4
  have := SeqAt.RcAt.lists h1.isList h3.isList e1 hu e2
  rw [jj] at this
  exact SeqAt.EqAt.of_refs e this
noncomputable def qL : O2 := fun a b σ Q => (dS σ iS a b ∨ dS σ (dS σ iS) a b ∨ ∃ xs ys, a = .tup xs ∧ b = .tup ys ∧ Same2 iS xs ys) ∧ Q (.bool false) σ
theorem uo : fT C k (compareOp .NotEq) qL := by
 intro A s σ a b wa wb Q P E ao R va vb q₀ hP
 obtain ⟨h, q⟩ := q₀
 have hu : A.units + 2 < cLine := Nat.lt_of_le_of_lt (Nat.add_le_add (Nat.le_add_right _ _) (by decide)) ao.units
 have u0 : A.units < cLine := Nat.lt_of_le_of_lt (Nat.le_add_right _ 2) hu
 have u1 : A.in1.units < cLine := Nat.lt_of_le_of_lt (Nat.le_succ _) hu
 have fin := hP _ _ σ s (.bool false) R Step.refl q
 have lists : ∀ {F : V → V → Prop}, oe C A.in1 s F → dS σ F a b → wpAny (model C.prog C.w) A (compareOp .NotEq wa wb) P E s := by
  rintro F hF ⟨p, q, xs, ys, rfl, rfl, hp, hq, h⟩
  cases va; cases vb
  obtain ⟨_, ws, h1, h2⟩ := R.view _ _ hp
  obtain ⟨_, us, h3, h4⟩ := R.view _ _ hq
  obtain ⟨e1, e2⟩ := iA hF h h2 h4
  have := SeqAt.RcNeAt.lists h1.isList h3.isList e1 u0 e2
  rw [jj] at this
  exact this C.prog C.w E P fin
 rcases h with h | h | ⟨xs, ys, rfl, rfl, h⟩
 ·exact lists kX h
 ·exact lists (rE R kX u1) h
 ·cases va with | @tup _ p ws ht hvs => cases vb with | @tup _ q us ht' hus =>
  obtain ⟨e1, e2⟩ := iA (A := A.in1) kX h hvs hus
  have := SeqAt.RcNeAt.tuples ht ht' u0 e2
  rw [jj, e1, beq_self_eq_true] at this
  exact this C.prog C.w E P fin
end
section
variable {σ : ah} {Q : V → ah → Prop}
theorem jL : ∀ (xs : List Int), Same2 iS (xs.map V.int) (xs.map V.int)
 | [] => .nil
 | x :: r => .cons ⟨x, rfl, rfl⟩ (jL r)
theorem jK {a b : Addr} {xs : List Int} (ha : σ a = some (.list (xs.map .int))) (hb : σ b = some (.list (xs.map .int))) : dS σ iS (.ref a) (.ref b) := ⟨a, b, _, _, rfl, rfl, ha, hb, jL xs⟩
theorem q8 {a b : Addr} {xs : List Int} (ha : σ a = some (.list (xs.map .int))) (hb : σ b = some (.list (xs.map .int))) (q : Q (.bool false) σ) : qL (.ref a) (.ref b) σ Q := ⟨.inl (jK ha hb), q⟩
end
end Mine
end
noncomputable section
namespace Mine
open PySem PySem.W PyProof.Rows PySem.Calls
section
variable {C : Cx} {sc : Scope} {k : Nat} {p : Program}
structure Side (C : Cx) (N : Addr) (env : Env) (σ : ah) (h : Heap) : Prop where
 view : ∀ b, N ≤ b → b < N + 5 → σ b = Option.none
 base : ∀ b, N ≤ b → b < N + 5 → C.hB.get? b = Option.none
 kind : ∀ b o, N ≤ b → b < N + 5 → h.get? b = some o → ¬ fU o ∧ ∀ v, o.data ≠ .cell v
 loc : env.locals < N
noncomputable def vF (N : Addr) (h h' : Heap) : Prop := ∀ b o, ¬ (N ≤ b ∧ b < N + 5) → h.get? b = some o → h'.get? b = some o
theorem lH {N : Addr} {env : Env} {σ : ah} {h h' : Heap} (X : Side C N env σ h) (hx : vF N h h') : a0 h h' := fun b o e ht => hx b o (fun z => (X.kind b o z.1 z.2 e).1 ht) e
theorem iQ {N : Addr} {env : Env} {σ : ah} {s : Shared} {h' : Heap} {tk : Nat} (R : RelG C σ s) (X : Side C N env σ s.heap) (hx : vF N s.heap h') : RelG C σ { s with heap := h', toks := tk } :=
 ⟨let ⟨_, _, d, e⟩ := R.rest; ⟨h', tk, d, by rw [e]⟩, fun b o e => hx b o (fun z => by rw [X.base b z.1 z.2] at e; cases e) (R.base b o e),
  fun a o e => (R.view a o e).keep (lH X hx) fun o' e' => hx a o' (fun z => by rw [X.view a z.1 z.2] at e; cases e) e', R.apart⟩
theorem fE {N : Addr} {env : Env} {m : bb} {σ : ah} {h h' : Heap} (F : FrameRel C env m σ h) (X : Side C N env σ h) (hx : vF N h h') : FrameRel C env m σ h' := by
 have kt := lH X hx
 have kc : ∀ c v, h.IsCell c v → h'.IsCell c v := fun c v ⟨o, ho, hd⟩ => ⟨o, hx c o (fun z => (X.kind c o z.1 z.2 ho).2 _ hd) ho, hd⟩
 obtain ⟨mm, hn, hm⟩ := F.ns
 refine ⟨⟨mm, hn.at fun o e => hx _ o (fun z => absurd X.loc (Nat.not_lt.mpr z.1)) e, fun y u e ky => ?_⟩, fun y u e => ?_, fun n c e => ?_, F.sepL, F.baseL, F.baseC, F.dist, F.has⟩
 ·obtain ⟨w, h1, h2⟩ := hm y u e ky; exact ⟨w, h1, h2.keep kt⟩
 ·rcases F.cel y u e with z | ⟨z, c, w', h1, h2, h3⟩
  ·exact .inl z
  ·exact .inr ⟨z, c, w', h1, kc _ _ h2, h3.keep kt⟩
 ·obtain ⟨v, hv⟩ := F.cells n c e; exact ⟨v, kc _ _ hv⟩
structure ZSt (h : Heap) (N l1 l2 : Addr) (f : Value) (i : Nat) : Prop where
 z : IsZip h (N + 4) (N + 2) (N + 3) f
 ti : IsPair h (N + 2) (.ref N) (.ref (N + 1))
 to : ∃ a b, IsPair h (N + 3) a b ∧ xQ a = false
 i1 : h.IsListIter N l1 i
 i2 : h.IsListIter (N + 1) l2 i
theorem v9 {N b j : Nat} (h : ¬ (N ≤ b ∧ b < N + 5)) (hj : j < 5) : b ≠ N + j := by rintro rfl; exact h ⟨Nat.le_add_right _ _, Nat.add_lt_add_left hj N⟩
theorem yv {N a b : Nat} (ha : a < N) (hb : b < N) : ZipApart (N + 4) (N + 2) (N + 3) N (N + 1) a b := by
 constructor <;> (intro h; have h' := (show @Eq Nat _ _ from h); omega)
theorem rz {N b : Nat} (h1 : N ≤ b) (h2 : b < N + 5) : b = N ∨ b = N + 1 ∨ b = N + 2 ∨ b = N + 3 ∨ b = N + 4 := by omega
theorem ZSt.kind {h : Heap} {N l1 l2 : Addr} {f : Value} {i : Nat} (x : ZSt h N l1 l2 f i) (b : Addr) (o : Obj) (h1 : N ≤ b) (h2 : b < N + 5) (e : h.get? b = some o) : ¬ fU o ∧ (∀ v, o.data ≠ .cell v) ∧ ∀ es ep, o.data ≠ .dict es ep := by
 obtain ⟨o1, a1, _, d1⟩ := x.i1
 obtain ⟨o2, a2, _, d2⟩ := x.i2
 obtain ⟨u, v, a3, hu⟩ := x.to
 have fld : ∀ {vs}, o.data = .fields vs → ¬ fU o ∧ (∀ v, o.data ≠ .cell v) ∧ ∀ es ep, o.data ≠ .dict es ep := fun d => ⟨fun ⟨_, _, _, z, _⟩ => (by rw [d] at z; cases z), fun v z => (by rw [d] at z; cases z), fun es ep z => (by rw [d] at z; cases z)⟩
 have sq : ∀ {u v : Value}, xQ u = false → o = { cls := .type "tuple", data := .seq #[u, v] } → ¬ fU o ∧ (∀ v, o.data ≠ .cell v) ∧ ∀ es ep, o.data ≠ .dict es ep := fun hu d => by
  subst d
  refine ⟨fun ⟨_, it, n, z, q⟩ => ?_, fun v z => (by cases z), fun es ep z => (by cases z)⟩
  cases z
  exact absurd (hu.symm.trans q) Bool.false_ne_true
 rcases rz h1 h2 with rfl | rfl | rfl | rfl | rfl
 ·rw [a1] at e; cases e; exact fld d1
 ·rw [a2] at e; cases e; exact fld d2
 ·rw [x.ti] at e; cases e; exact sq rfl rfl
 ·rw [a3] at e; cases e; exact sq hu rfl
 ·rw [x.z] at e; cases e; exact fld rfl
theorem ZSt.at {h h' : Heap} {N l1 l2 : Addr} {f : Value} {i : Nat} (x : ZSt h N l1 l2 f i) (k : ∀ b o, N ≤ b → b < N + 5 → h.get? b = some o → h'.get? b = some o) : ZSt h' N l1 l2 f i :=
 ⟨k _ _ (Nat.le_add_right _ _) (Nat.lt_succ_self _) x.z, k _ _ (Nat.le_add_right _ _) (Nat.add_lt_add_left (by decide) _) x.ti, let ⟨a, b, e, q⟩ := x.to; ⟨a, b, k _ _ (Nat.le_add_right _ _) (Nat.add_lt_add_left (by decide) _) e, q⟩,
  x.i1.at fun o e => k _ o (Nat.le_refl _) (Nat.lt_add_of_pos_right (by decide)) e, x.i2.at fun o e => k _ o (Nat.le_add_right _ _) (Nat.add_lt_add_left (by decide) _) e⟩
theorem ZSt.size {h : Heap} {N l1 l2 : Addr} {f : Value} {i : Nat} (x : ZSt h N l1 l2 f i) : N + 5 ≤ h.objs.size := Heap.lt_size x.z
theorem ZSt.step {h h' : Heap} {N l1 l2 : Addr} {f : Value} {i : Nat} {env : Env} {m : bb} {σ σ' : ah} (x : ZSt h N l1 l2 f i) (S : Step (kh env) σ σ' h h') (F : FrameRel C env m σ h) (X : Side C N env σ h) : ZSt h' N l1 l2 f i ∧ Side C N env σ' h' := by
 have y : ZSt h' N l1 l2 f i := x.at fun b o h1 h2 e => S.keep b o e (X.view b h1 h2) (fun z => by
  rcases z with z | ⟨n, z⟩
  ·exact absurd X.loc (Nat.not_lt.mpr (z ▸ h1))
  ·obtain ⟨u, ou, hou, hdu⟩ := F.cells n b z
   rw [e] at hou; cases hou
   exact (X.kind b o h1 h2 e).2 u hdu) (x.kind b o h1 h2 e).2.2
 refine ⟨y, fun b h1 h2 => ?_, X.base, fun b o h1 h2 e => ⟨(y.kind b o h1 h2 e).1, (y.kind b o h1 h2 e).2.1⟩, X.loc⟩
 cases z : σ' b with
 | none => rfl
 | some o => exact absurd (Nat.lt_of_lt_of_le h2 x.size) (Nat.not_lt.mpr (S.new b (X.view b h1 h2) (by rw [z]; simp)))
noncomputable def uH (L : LT) : IT := fun m σ Q => L m σ fun vs σ₂ => ∃ a b as bs, vs = [.ref a, .ref b] ∧ as.length = bs.length ∧ σ₂ a = some (.list (as.map .ref)) ∧ σ₂ b = some (.list (bs.map .ref)) ∧
 Q (List.zipWith (fun x y => .tup [.ref x, .ref y]) as bs) (fun σ => σ a = some (.list (as.map V.ref)) ∧ σ b = some (.list (bs.map V.ref))) σ₂
theorem lL {aS : Addr} {h : Heap} : ∀ {as : List Addr} {ws : List Value}, VRels aS h (as.map .ref) ws → ws = as.map .ref
 | [], _, r => r.inv0
 | a :: as, _, r => by
  obtain ⟨w, ws, rfl, h1, r2⟩ := r.invC
  cases h1
  rw [lL r2]; rfl
theorem cN {σ : ah} {s : Shared} {a : Addr} {as : List Addr} (R : RelG C σ s) (h : σ a = some (.list (as.map .ref))) : s.heap.IsList a (as.map Value.ref).toArray := by
 obtain ⟨_, ws, h1, h2⟩ := R.view _ _ h
 have := h1.isList
 rwa [lL h2] at this
theorem uY : bootBuiltins (Str.ofString "zip") = some (.type "zip") := by decide +kernel
theorem r9 (O : C.Ok) {l : List (String × Pos)} {n : Nat} {pos : Pos} (hx : ∀ x ∈ l, sc.names.lookup (Str.ofString x.1) = some .local) {env : Env} {A : Around} {s : Shared} {m : bb} {σ : ah} {vs : List V} {t : Addr} {ws : List Value} {P : Unit → Shared → Prop} {E : Value → Shared → Prop} (en : EnvOk env sc) (ao : AOk C A k) (R : RelG C σ s) (F : FrameRel C env m σ s.heap)
  (ht : s.heap.IsTuple t ws.toArray) (hvs : VRels C.aS s.heap vs ws) (hlen : l.length = vs.length) (hP : ∀ s', RelG C σ s' → FrameRel C env (aC (l.map (·.1)) vs m) σ s'.heap → Step (kh env) σ σ s.heap s'.heap → P () s') :
  wpAny (model C.prog C.w) A (assign (.Tuple (bV l) n pos) env (.ref t)) P E s := by
 refine be (oP (ao.hd O R) ht (by rw [(dk env _).1, List.size_toArray, ← hvs.length, hlen]) (dk env _).2 fun h' hx' => ?_)
 have keep : ∀ b o, s.heap.get? b = some o → h'.get? b = some o := fun b o e => hx' b o (Nat.ne_of_lt (Heap.lt_size e)) e
 have e : ws.toArray.toList = ws := by simp
 rw [e]
 refine gY en l vs ws _ m σ _ hlen hx (R.grow (tk := s.toks) keep) (F.grow keep) (hvs.keep fun b o e _ => keep b o e) fun s₂ R₂ F₂ S₂ hsz => ?_
 exact hP s₂ R₂ F₂ ⟨fun b o e n q => S₂.keepL b o (keep b o e) n fun z => q (.inl z), hsz, fun _ a b => absurd a b⟩
inductive ZInv (C : Cx) (env : Env) (σ : ah) (h : Heap) (N l1 l2 : Addr) (items : List V) (L : List V → bb → ah → Prop) (n : Nat) (s' : Shared) : Prop
 | mk (i : Nat) (m' : bb) (σ' : ah) (rest : List V) (e1 : items.drop i = rest) (e2 : i ≤ items.length) (e3 : n = rest.length + 1) (st : ZSt s'.heap N l1 l2 .none i) (X : Side C N env σ' s'.heap) (R : RelG C σ' s') (F : FrameRel C env m' σ' s'.heap)
   (S : Step (fun b => kh env b ∨ (N ≤ b ∧ b < N + 5)) σ σ' h s'.heap) (q : L rest m' σ') : ZInv C env σ h N l1 l2 items L n s'
theorem n8 (G : Gl C p) (hz : C.held = Option.none) (hzip : C.mg (Str.ofString "zip") = Option.none) {x1 x2 : String} {p1 p2 tp np cp pos : Pos} {n : Nat} {es : List Expr} {body : List Stmt} {L : LT} {T : ST}
  (hn : sc.names.lookup (Str.ofString "zip") = some .globalImplicit) (hx : ∀ x ∈ [(x1, p1), (x2, p2)], sc.names.lookup (Str.ofString x.1) = some .local) (hl : HL C sc k es L) (hpl : aJ es = true) (hb : HS C sc k body T)
  (hf : ∀ env x, foldedSetIterable (.Call (.Name (Str.ofString "zip") np) es [] cp) env x = pure x) :
  HS1 C sc k (.For (.Tuple (bV [(x1, p1), (x2, p2)]) n tp) (.Call (.Name (Str.ofString "zip") np) es [] cp) body [] pos) (bX (.tup [x1, x2]) (uH L) T) := by
 refine ⟨?_⟩; intro env A s m σ Q P E en ao R F q hP
 have O := G.ok
 rw [exec_For]
 refine wpAny_bind (wpAny_standAt ?_)
 have start : wpAny (model C.prog C.w) A (eval (.Call (.Name (Str.ofString "zip") np) es [] cp) env) (fun x s₁ => wpAny (model C.prog C.w) A (pyIter x) (fun it s₂ => codeAny (model C.prog C.w) A (.forLoop (.Tuple (bV [(x1, p1), (x2, p2)]) n tp) it body [] env) (fun r s' => match r with | .ok f => P f s' | .error e => cameBackBy (model C.prog C.w) A env E e s') s₂) E s₁) E s := by
  refine wpAny_Call_NameR (Calls.Name_function_global en.k (en.of hn) (Calls.loadGlobal_builtin (mg := C.mg) (mb := C.mb) (by rw [en.globals]; exact O.g.keeps R.base) hzip (by rw [en.builtins]; exact O.b.keeps R.base) (G.blt uY (by decide)) ?_) rfl)
  refine PySem.callWith_type (bh hpl) (bn hpl (hl.run env A s m σ cp _ _ E en ao R F q fun vs ws σ₀ s₀ hv R₀ S₀ q₀ => ?_))
  obtain ⟨a, b, as, bs, rfl, hlen, ha, hb', q₁⟩ := q₀
  obtain ⟨wa, _, rfl, va, r⟩ := hv.invC
  obtain ⟨wb, _, rfl, vb, r2⟩ := r.invC
  rw [r2.inv0]
  cases va; cases vb
  show wpAny _ A (PySem.call (.type "zip") ([] ++ [.ref a, .ref b])) _ _ _
  rw [List.nil_append]
  have la := cN R₀ ha
  have lb := cN R₀ hb'
  have alt : a < s₀.heap.objs.size := let ⟨_, ho, _⟩ := la; Heap.lt_size ho
  have blt : b < s₀.heap.objs.size := let ⟨_, ho, _⟩ := lb; Heap.lt_size ho
  refine call_zip_2 la lb fun h₁ z1 z2 z3 z4 z5 hsz hk => ?_
  refine wpAny_pyIter_zip z1 ?_
  obtain ⟨mm, hns, _⟩ := F.ns
  have hloc : env.locals < s₀.heap.objs.size := Nat.lt_of_lt_of_le hns.lt S₀.size
  generalize hN : s₀.heap.objs.size = N at *
  have D : ZipApart (N + 4) (N + 2) (N + 3) N (N + 1) a b := yv alt blt
  have out : ∀ c, N ≤ c → s₀.heap.get? c = Option.none := fun c h => aA (hN ▸ h)
  have st₁ : ZSt h₁ N a b .none 0 := ⟨z1, z2, ⟨_, _, z3, rfl⟩, z4, z5⟩
  have X₁ : Side C N env σ₀ h₁ := ⟨fun c h1 _ => R₀.freshNone (out c h1), fun c h1 _ => R₀.baseNone (out c h1), fun c o h1 h2 e => ⟨(st₁.kind c o h1 h2 e).1, (st₁.kind c o h1 h2 e).2.1⟩, hloc⟩
  have R₁ : RelG C σ₀ { s₀ with heap := h₁ } := R₀.grow (tk := s₀.toks) hk
  have F₁ : FrameRel C env m σ₀ h₁ := (F.step R S₀).grow hk
  have S₁ : Step no σ σ₀ s.heap h₁ := S₀.trans (.grow hk (by rw [hN, hsz]; exact Nat.le_add_right _ _))
  have back : ∀ {σ' : ah} {h' : Heap}, Step (fun b => kh env b ∨ (N ≤ b ∧ b < N + 5)) σ σ' s.heap h' → Step (kh env) σ σ' s.heap h' := fun S =>
   S.mono fun b o e z => z.elim id fun z => absurd (Heap.lt_size e) (Nat.not_lt.mpr (Nat.le_trans (hN ▸ S₀.size) z.1))
  generalize hit : List.zipWith (fun x y => V.tup [.ref x, .ref y]) as bs = items at q₁
  have hil : items.length = as.length := by rw [← hit, List.length_zipWith, ← hlen, Nat.min_self]
  refine codeAny_forLoop_any (ZInv C env σ s.heap N a b items fun rest m' σ' => fh (.tup [x1, x2]) (fun σ => σ a = some (.list (as.map V.ref)) ∧ σ b = some (.list (bs.map V.ref))) T rest m' σ' Q) ?_ _
   ⟨0, m, σ₀, items, by simp, by simp, rfl, st₁, X₁, R₁, F₁, S₁.mono fun _ _ _ z => z.elim, q₁⟩
  rintro nn s' ⟨i, m', σ', rest, e1, e2, rfl, st, X, R', F', S', q'⟩
  obtain ⟨tu, tv, hto, htq⟩ := st.to
  have drew : ∀ {h h' : Heap}, vF N h h' → h.objs.size ≤ h'.objs.size → Step (fun b => kh env b ∨ (N ≤ b ∧ b < N + 5)) σ' σ' h h' := fun hx hsz =>
   .of (fun b o e _ q => hx b o (fun z => q (.inr z)) e) hsz fun _ a b => absurd a b
  have far : ∀ {h h' : Heap}, (∀ c o, c ≠ N + 4 → c ≠ N + 3 → c ≠ N → c ≠ N + 1 → h.get? c = some o → h'.get? c = some o) → vF N h h' := fun hk b o hb e => hk b o (v9 hb (by decide)) (v9 hb (by decide)) (v9 (j := 0) hb (by decide)) (v9 hb (by decide)) e
  cases rest with
  | nil =>
   have hil' : i = items.length := ga e1 e2
   obtain ⟨⟨qa, qb⟩, q'⟩ := q'
   refine be (wpAny_pyNext_zip_end (ao.none hz) D st.z st.ti hto st.i1 st.i2 (cN R' qa) (cN R' qb) (.inl (by simp [hil', hil])) fun h' hk hsz => ?_)
   exact wpAny_execs_nil (hP .next .next m' σ' _ .next (iQ (tk := s'.toks) R' X (far hk)) (fE F' X (far hk)) (back (S'.trans (drew (far hk) hsz))) q')
  | cons v r =>
   obtain ⟨⟨qa, qb⟩, m₁, hm₁, q'⟩ := q'
   have hiv : items[i]? = some v := by
    have : (items.drop i)[0]? = some v := by rw [e1]; rfl
    simpa using this
   have hilt : i < items.length := iB e1
   rw [← hit, List.getElem?_zipWith] at hiv
   have ia : i < as.length := hil ▸ hilt
   have ib : i < bs.length := hlen ▸ ia
   rw [List.getElem?_eq_getElem ia, List.getElem?_eq_getElem ib] at hiv
   cases hiv
   cases hm₁
   refine be (wpAny_pyNext_zip_item D st.z st.ti hto st.i1 st.i2 (cN R' qa) (cN R' qb) (x := .ref as[i]) (y := .ref bs[i]) (by simp [ia]) (by simp [ib]) fun h₁ a1 a2 a3 a4 a5 a6 hk hsz => ?_)
   have st₁ : ZSt h₁ N a b _ (i + 1) := ⟨a1, hk _ _ D.TIz D.TITO D.TIi1 D.TIi2 st.ti, ⟨_, _, a2, rfl⟩, a3, a4⟩
   have X₁ : Side C N env σ' h₁ := ⟨X.view, X.base, fun c o h1 h2 e => ⟨(st₁.kind c o h1 h2 e).1, (st₁.kind c o h1 h2 e).2.1⟩, X.loc⟩
   have R₁ := iQ (tk := s'.toks) R' X (far hk)
   have F₁ := fE F' X (far hk)
   have S₁ := S'.trans (drew (far hk) hsz)
   refine be (wpAny_letOwnedTupleGo_zip a1 fun h₂ b1 hsb hsz₂ => ?_)
   have hk₂ : vF N h₁ h₂ := fun c o hc e => hsb.extBut c o (v9 hc (by decide)) e
   have st₂ : ZSt h₂ N a b .none (i + 1) := ⟨b1, hsb.extBut _ _ D.TIz st₁.ti, ⟨_, _, hsb.extBut _ _ D.TOz a2, rfl⟩, a3.extBut hsb.extBut D.i1z, a4.extBut hsb.extBut D.i2z⟩
   have X₂ : Side C N env σ' h₂ := ⟨X.view, X.base, fun c o h1 h2 e => ⟨(st₂.kind c o h1 h2 e).1, (st₂.kind c o h1 h2 e).2.1⟩, X.loc⟩
   have R₂ := iQ (tk := s'.toks) R₁ X₁ hk₂
   have F₂ := fE F₁ X₁ hk₂
   have S₂ := S₁.trans (drew hk₂ hsz₂)
   have hT : h₂.IsTuple s'.heap.objs.size #[.ref as[i], .ref bs[i]] := ⟨_, hk₂ _ _ (fun z => absurd z.2 (Nat.not_lt.mpr st.size)) a5, rfl, _, rfl⟩
   refine r9 O hx en ao R₂ F₂ (ws := [.ref as[i], .ref bs[i]]) (vs := [.ref as[i], .ref bs[i]]) hT (.cons (.ref _) (.cons (.ref _) .nil)) rfl fun s₃ R₃ F₃ S₃ => ?_
   obtain ⟨st₃, X₃⟩ := st₂.step S₃ F₂ X₂
   refine hb.run env A s₃ _ σ' _ _ _ en ao R₃ F₃ q' fun f fl m₄ σ₄ s₄ hf R₄ F₄ S₄ q₄ => ?_
   obtain ⟨st₄, X₄⟩ := st₃.step S₄ F₃ X₃
   have SS := (S₂.trans (S₃.mono fun _ _ _ z => .inl z)).trans (S₄.mono fun _ _ _ z => .inl z)
   have go : fh (.tup [x1, x2]) (fun σ => σ a = some (.list (as.map V.ref)) ∧ σ b = some (.list (bs.map V.ref))) T r m₄ σ₄ Q → ∃ k', k' < (V.tup [.ref as[i], .ref bs[i]] :: r).length + 1 ∧ ZInv C env σ s.heap N a b items (fun rest m' σ' => fh (.tup [x1, x2]) (fun σ => σ a = some (.list (as.map V.ref)) ∧ σ b = some (.list (bs.map V.ref))) T rest m' σ' Q) k' s₄ := fun q₄ =>
    ⟨r.length + 1, Nat.lt_succ_self _, i + 1, m₄, σ₄, r, by rw [← List.tail_drop, e1]; rfl, hilt, rfl, st₄, X₄, R₄, F₄, SS, q₄⟩
   cases hf with
   | next => exact go q₄
   | cont => exact go q₄
   | brk => exact hP .next .next m₄ σ₄ s₄ .next R₄ F₄ (back SS) q₄
   | ret hv => exact hP _ _ m₄ σ₄ s₄ (.ret hv) R₄ F₄ (back SS) q₄
 refine wpAny_bind (wpAny_mono start (fun x s₁ h₁ => wpAny_bind (wpAny_of_eq (hf env x) (wpAny_bind (wpAny_standAt (wpAny_bind (wpAny_holding (wpAny_mono h₁ (fun it s₂ h₂ => wpAny_runOwn h₂) fun _ _ h' => h'))))))) fun _ _ h' => h')
end
section
variable {m : bb} {σ : ah} {J : List V → (ah → Prop) → ah → Prop} {L : LT}
@[simp] theorem xg : uH L m σ J = L m σ fun vs σ₂ => ∃ a b as bs, vs = [.ref a, .ref b] ∧ as.length = bs.length ∧ σ₂ a = some (.list (as.map .ref)) ∧ σ₂ b = some (.list (bs.map .ref)) ∧ J (List.zipWith (fun x y => .tup [.ref x, .ref y]) as bs) (fun σ => σ a = some (.list (as.map V.ref)) ∧ σ b = some (.list (bs.map V.ref))) σ₂ := rfl
end
end Mine
end
noncomputable section
namespace Mine
open PySem PySem.W PyProof.Rows PySem.Calls
noncomputable def ow (σ : ah) (a b : V) : Prop := ∃ p q kvs e1 e2, a = .ref p ∧ b = .ref q ∧ σ p = some (.dict kvs e1) ∧ σ q = some (.dict kvs e2) ∧ ∀ z ∈ kvs, ∃ y, z.2 = V.str y
theorem lW : ∀ {U : List (Str × V)} {x : Str} {v w : V}, (U.map (·.1)).Nodup → (x, v) ∈ U → (x, w) ∈ U → v = w
 | q :: r, x, v, w, h, h1, h2 => by
  have hn := List.nodup_cons.mp h
  rcases List.mem_cons.mp h1 with e1 | g1
  ·rcases List.mem_cons.mp h2 with e2 | g2
   ·rw [← e1] at e2; cases e2; rfl
   ·subst e1; exact absurd (List.mem_map.mpr ⟨_, g2, rfl⟩) hn.1
  ·rcases List.mem_cons.mp h2 with e2 | g2
   ·subst e2; exact absurd (List.mem_map.mpr ⟨_, g1, rfl⟩) hn.1
   ·exact lW hn.2 g1 g2
section
variable {C : Cx} {sc : Scope} {k : Nat} {A : Around} {s : Shared} {σ : ah}
theorem jP {kvs : List (Str × V)} {w2 : List (Str × Value)} (h2 : PRel C.aS s.heap kvs w2) (hs : ∀ z ∈ kvs, ∃ y, z.2 = V.str y) (hn : (kvs.map (·.1)).Nodup) {k1 : List (Str × V)} {w1 : List (Str × Value)} (x : PRel C.aS s.heap k1 w1) : (∀ z ∈ k1, z ∈ kvs) → KeqHits A s w2 w1 true := by
 refine x.ind (P := fun k1 w1 => (∀ z ∈ k1, z ∈ kvs) → KeqHits A s w2 w1 true) (fun _ => .nil) fun k v w r r' hv _ ih hm => ?_
 have hk := hm (k, v) (.head _)
 obtain ⟨y, e⟩ := hs _ hk
 cases e
 obtain ⟨v', g1, g2⟩ := dL (List.mem_map.mpr ⟨_, hk, rfl⟩)
 cases lW hn g2 hk
 obtain ⟨wy, e1, e2⟩ := h2.find g1
 obtain ⟨t, rfl⟩ := hv.invStr
 obtain ⟨u, rfl⟩ := e2.invStr
 have eq := SeqAt.EqAt.str_str (A := A) (s := s) y t y u
 rw [beq_self_eq_true] at eq
 exact .hit e1 eq (ih fun z hz => hm z (.tail _ hz))
theorem wv (O : C.Ok) (R : RelG C σ s) (hu : A.units < cLine) {a b : V} {wa wb : Value} (h : ow σ a b) (va : VRel C.aS s.heap a wa) (vb : VRel C.aS s.heap b wb) : EqW C A s wa wb true := by
 obtain ⟨p, q, kvs, e1, e2, rfl, rfl, hp, hq, hs⟩ := h
 cases va; cases vb
 by_cases e : p = q
 ·subst e; exact EqW.at (SeqAt.EqAt.same _)
 ·obtain ⟨_, ws, h1, h2⟩ := R.view _ _ hp
  obtain ⟨_, us, h3, h4⟩ := R.view _ _ hq
  have hn : (kvs.map (·.1)).Nodup := by rw [h2.keys]; exact let ⟨_, _, _, _, _, _, _, _, hn⟩ := h1.dictOf; hn
  have n1 := O.noMods (R.apart p (by rw [hp]; simp))
  have n2 := O.noMods (R.apart q (by rw [hq]; simp))
  have el : (ws.length == us.length && true) = true := by rw [← h2.length, ← h4.length, beq_self_eq_true]; rfl
  refine EqW.of_refs e fun op E Q hop hQ => ?_
  rcases hop with rfl | rfl
  ·exact keq_eq n1 n2 h1.dictOf h3.dictOf hu (fun _ => jP h4 hs hn h2 fun z hz => hz) (by rw [el]; exact hQ)
  ·exact keq_ne n1 n2 h1.dictOf h3.dictOf hu (fun _ => jP h4 hs hn h2 fun z hz => hz) (by rw [el]; exact hQ)
theorem uR (O : C.Ok) (R : RelG C σ s) (hu : A.units < cLine) {xs ys : List V} {ws us : List Value} (h : Same2 (ow σ) xs ys) : VRels C.aS s.heap xs ws → VRels C.aS s.heap ys us → EqWs C A s ws us true := by
 induction h generalizing ws us with
 | nil => intro r1 r2; rw [r1.inv0, r2.inv0]; rfl
 | cons h r ih =>
  intro r1 r2
  obtain ⟨w, ws, rfl, v1, r1⟩ := r1.invC
  obtain ⟨u, us, rfl, v2, r2⟩ := r2.invC
  exact ⟨true, wv O R hu h v1 v2, .inl ⟨rfl, ih r1 r2⟩⟩
theorem Same2.len {F : V → V → Prop} {xs ys : List V} (h : Same2 F xs ys) : xs.length = ys.length := by
 induction h with
 | nil => rfl
 | cons _ _ ih => exact congrArg (· + 1) ih
theorem rF (O : C.Ok) (R : RelG C σ s) (hu : A.in1.units < cLine) {a b : V} {wa wb : Value} (h : dS σ (ow σ) a b) (va : VRel C.aS s.heap a wa) (vb : VRel C.aS s.heap b wb) {P E : Value → Shared → Prop} (fin : P (.bool true) s) : wpAny (model C.prog C.w) A (compareOp .Eq wa wb) P E s := by
 obtain ⟨p, q, xs, ys, rfl, rfl, hp, hq, h⟩ := h
 cases va; cases vb
 obtain ⟨_, ws, h1, h2⟩ := R.view _ _ hp
 obtain ⟨_, us, h3, h4⟩ := R.view _ _ hq
 have he := uR (A := A.in1) O R hu h h2 h4
 obtain ⟨⟨cls, dd, data, sl⟩, ho, hc, n, hd⟩ := id h1.isList
 obtain ⟨⟨cls2, dd2, data2, sl2⟩, ho2, hc2, n2, hd2⟩ := id h3.isList
 simp only at hc hd hc2 hd2
 subst hc hd hc2 hd2
 exact wpAny_richCompare_same_room (op := .Eq) ⟨_, ho, rfl⟩ ⟨_, ho2, rfl⟩ _root_.PySem.F.slot_list_eq (call_meetsIn _root_.PySem.F.slot_list_eq ⟨_, ho, rfl⟩ _root_.PySem.F.entry_list_eq (_root_.PySem.F.args_list_eq_2 _ _)
   (S := fun A' R s' => A' = A ∧ s' = s ∧ R (.ok (.ret (.bool true))) s) (fun A' R s' ⟨e1, e2, hR⟩ => by subst e1 e2; exact re p q ws us n n2 dd dd2 sl sl2 ho ho2 (fun _ => he) (fun z => absurd (by rw [← h2.length, ← h4.length, h.len]) z) hR) ⟨rfl, rfl, (fun x => nomatch x), fin⟩) (Nat.lt_of_le_of_lt (Nat.le_succ _) hu)
noncomputable def qP : O2 := fun a b σ Q => (dS σ (dS σ iS) a b ∨ dS σ (ow σ) a b) ∧ Q (.bool true) σ
theorem qX (O : C.Ok) : fT C k (compareOp .Eq) qP := by
 intro A s σ a b wa wb Q P E ao R va vb q₀ hP
 obtain ⟨h, q⟩ := q₀
 have hu : A.units + 2 < cLine := Nat.lt_of_le_of_lt (Nat.add_le_add (Nat.le_add_right _ _) (by decide)) ao.units
 have u0 : A.units < cLine := Nat.lt_of_le_of_lt (Nat.le_add_right _ 2) hu
 have u1 : A.in1.units < cLine := Nat.lt_of_le_of_lt (Nat.le_succ _) hu
 have fin := hP _ _ σ s (.bool true) R Step.refl q
 have lists : ∀ {F : V → V → Prop}, oe C A.in1 s F → dS σ F a b → wpAny (model C.prog C.w) A (compareOp .Eq wa wb) P E s := by
  rintro F hF ⟨p, q, xs, ys, rfl, rfl, hp, hq, h⟩
  cases va; cases vb
  obtain ⟨_, ws, h1, h2⟩ := R.view _ _ hp
  obtain ⟨_, us, h3, h4⟩ := R.view _ _ hq
  obtain ⟨e1, e2⟩ := iA hF h h2 h4
  have := SeqAt.RcAt.lists h1.isList h3.isList e1 u0 e2
  rw [jj] at this
  exact this C.prog C.w E P fin
 rcases h with h | h
 ·exact lists (rE R kX u1) h
 ·exact rF O R u1 h va vb fin
noncomputable def tN : O2 := fun a b σ Q => ∃ p q xs, a = .ref p ∧ b = .ref q ∧ σ p = some (.list xs) ∧ σ q = some (.list []) ∧ Q (.bool xs.isEmpty) σ
theorem uz : fT C k (compareOp .Eq) tN := by
 intro A s σ a b wa wb Q P E ao R va vb q₀ hP
 obtain ⟨p, r, xs, rfl, rfl, hp, hr, q⟩ := q₀
 cases va; cases vb
 have u0 : A.units < cLine := Nat.lt_of_le_of_lt (Nat.le_trans (Nat.le_add_right _ _) (Nat.le_add_right _ _)) ao.units
 have fin := hP _ _ σ s (.bool _) R Step.refl q
 obtain ⟨_, ws, h1, h2⟩ := R.view _ _ hp
 obtain ⟨_, us, h3, h4⟩ := R.view _ _ hr
 cases h4.inv0
 cases xs with
 | nil =>
  cases h2.inv0
  have := SeqAt.RcAt.lists (e := fun _ => true) h1.isList h3.isList rfl u0 fun j h _ => absurd h (Nat.not_lt_zero _)
  exact this C.prog C.w E P fin
 | cons x xs =>
  obtain ⟨w, ws, rfl, _, _⟩ := h2.invC
  exact SeqAt.RcAt.lists_lengths h1.isList h3.isList rfl u0 C.prog C.w E P fin
noncomputable def tM : O2 := fun a b σ Q => ∃ xs, a = .tup xs ∧ b = .tup [] ∧ Q (.bool (!xs.isEmpty)) σ
theorem um : fT C k (compareOp .NotEq) tM := by
 intro A s σ a b wa wb Q P E ao R va vb q₀ hP
 obtain ⟨xs, rfl, rfl, q⟩ := q₀
 have u0 : A.units < cLine := Nat.lt_of_le_of_lt (Nat.le_trans (Nat.le_add_right _ _) (Nat.le_add_right _ _)) ao.units
 have fin := hP _ _ σ s (.bool _) R Step.refl q
 cases va with | @tup _ p ws ht hvs => cases vb with | @tup _ q us ht' hus =>
 cases hus.inv0
 have := SeqAt.RcNeAt.tuples (e := fun _ => true) ht ht' u0 fun j _ h => absurd h (Nat.not_lt_zero _)
 cases xs with
 | nil => cases hvs.inv0; exact this C.prog C.w E P fin
 | cons x xs =>
  obtain ⟨w, ws, rfl, _, _⟩ := hvs.invC
  exact this C.prog C.w E P fin
end
end Mine
end
noncomputable section

end
noncomputable section
set_option maxRecDepth 100000
set_option maxHeartbeats 0
namespace Mine
namespace Hd
noncomputable section
open PySem PySem.W PyProof.Rows PySem.Calls
theorem topGo_q : topGo = PySem.W.Fast.tw15667345088766844465 := PySem.W.Fast.te15667345088766844465
theorem segRun_q : segRun = PySem.W.Fast.tw14374325043358763698 := PySem.W.Fast.te14374325043358763698
theorem segRunT_q : segRunT = PySem.W.Fast.tw10110043849684766642 := PySem.W.Fast.te10110043849684766642
theorem topRun_q : topRun = PySem.W.Fast.tw14082659384304107361 := PySem.W.Fast.te14082659384304107361
theorem table_q : treeTable = PySem.W.Fast.tw14364793385576792824 := PySem.W.Fast.te14364793385576792824
theorem denote_q : denote = PySem.W.Fast.tw11892475500146522536 := PySem.W.Fast.te11892475500146522536
noncomputable def fA (l : List Stmt) (n : Nat) : Arguments := match l[n]? with | some (.FunctionDef _ a _ _ _ _ _ _ _ _) => a | _ => default
noncomputable def fB (l : List Stmt) (n : Nat) : List Stmt := match l[n]? with | some (.FunctionDef _ _ b _ _ _ _ _ _ _) => b | _ => []
noncomputable def fS (l : List Stmt) (n : Nat) : Scope := match l[n]? with | some (.FunctionDef _ _ _ _ _ _ s _ _ _) => s | _ => default
noncomputable def cB (l : List Stmt) (n : Nat) : List Stmt := match l[n]? with | some (.ClassDef _ _ _ b ..) => b | _ => []
noncomputable def cS (l : List Stmt) (n : Nat) : Scope := match l[n]? with | some (.ClassDef _ _ _ _ _ _ s ..) => s | _ => default
abbrev n : Value := .none
abbrev r (k : Nat) : Value := .ref k
abbrev s (x : Str) (k : Nat) : Value := .str x k
abbrev i (k m : Nat) : Value := .int (Int.ofNat k) m
abbrev z (k : Nat) : Value := .int (Int.ofNat k) 0
abbrev t (x : String) : Value := .type x
abbrev u (x : String) : Value := .builtin x
abbrev ps (a b c d : Nat) : Pos := Pos.mk a b c d
noncomputable def e (P : Params) (x : String) (k : Nat) (v : Value) : DictEntry := .mk (PyData.keyHash P x) (.str (Str.ofString x) k) v
noncomputable def O (x : String) (l : List Value) : Obj := .mk (.type x) none (.fields l.toArray) #[]
noncomputable def T (l : List Value) : Obj := .mk (.type "tuple") none (.seq l.toArray 0) #[]
noncomputable def E (l : List Value) : Obj := .mk .none none (.fields l.toArray) #[]
noncomputable def D (l : List DictEntry) (k : Nat) : Obj := .mk (.type "dict") none (.dict l.toArray k) #[]
noncomputable def K (x y : Str) (k l a f b : Nat) (g : Bool) (v0 v1 v2 v3 : Value) (m : Nat) : Obj := O "code" [s x k, s y (k + 1), s "/claim/cut.py" (k + 2), z l, z a, z 0, z 0, z f, r b, .bool g, z 181, r (b + 1), v0, v1, v2, v3, z m, z l, s "/claim/cut.py" (m + 1)]
noncomputable def G (x y : Str) (l : List Stmt) (k : Nat) : Obj := .mk .none none (.func (.mk x y (fA l k) (.stmts (fB l k)) (fS l k) 0 [] n n n n none n n 0)) #[]
noncomputable def F (x y : Str) (l : List Stmt) (k g : Nat) (v c : Value) : Obj := .mk (.type "function") none (.func (.mk x y (fA l k) (.stmts (fB l k)) (fS l k) g [] n n n v none c n 0)) #[]
noncomputable def M (a b c : Nat) (v : Value) : Obj := .mk (.type "frame") none .plain #[some (r a), some (r b), some (r c), none, some v, none, some (r 0)]
noncomputable def lfe : Life := (@Life.mk [] [] [] 0 [] [] false (@List.toArray @Nat []) [] 0 false false false (0 : Int) [(2000 : Int), (10 : Int), (10 : Int)] false 0 true [] [] 0 false)
noncomputable def dw : Drawn := Drawn.mk 0 0 0 0
noncomputable def ev (l : List Obj) : List Obj × List Obj := List.rec ([], []) (fun x _ ih => (x :: ih.2, ih.1)) l
noncomputable def bt (f : Nat) : List Obj → PySem.W.BT := Nat.rec (fun _ => .nil) (fun _ ih l => List.rec .nil (fun x t _ => .node x (ih (ev t).1) (ih (ev t).2)) l) f
abbrev pw : Program := PySem.Challenge.pw_uf050007_13
abbrev TB : List Stmt := pw.main.body
noncomputable def vw : Program := view pw [0, 2, 3, 4, 5, 6, 7, 8, 9, 11, 12, 13, 14, 15, 16, 17, 19, 20, 21, 22, 23, 24, 26, 27, 29, 31, 32, 33, 34, 35, 36, 37, 38, 39, 40, 41]
noncomputable def env : Env := { scope := pw.main.scope, locals := mainNs, globals := mainNs, cells := [], code := (.ref 13), frame := some 14 }
noncomputable def ann : Option Value := (some (.ref 6))
abbrev cE : Code := .body (behindTheImports pw) env
noncomputable def qq : Pos := (ps 0 0 0 0)
abbrev BB : List Frame := [topFrame qq]
abbrev s0 (w : World) (os : OsState) : Shared := Shared.mk (boot_heap w.params) (@Array.mk GenState []) boot_drawn boot_toks os
noncomputable def eo3 (P : Params) : List DictEntry := [(e P "__name__" 165 (s "law_uf050007_13" 580)), (e P "__doc__" 166 n), (e P "__package__" 167 n), (e P "__loader__" 168 (u "__main__.__loader__#opaque")), (e P "__spec__" 169 n), (e P "__annotations__" 170 (r 6)), (e P "__builtins__" 171 (r 4)), (e P "__file__" 173 (s "/claim/cut.py" 172)), (e P "__cached__" 174 n), (e P "_wall" 193 (r 21)), (e P "RoadError" 213 (r 31)), (e P "NoPath" 229 (r 44)), (e P "NoFile" 245 (r 56)), (e P "InTheWay" 261 (r 68)), (e P "NoClash" 277 (r 80)), (e P "Clashed" 293 (r 92)), (e P "NoVersion" 309 (r 104)), (e P "SameVersion" 325 (r 116)), (e P "SIGNS" 329 (s "abcdefghijklmnopqrstuvwxyzABCDEFGHIJKLMNOPQRSTUVWXYZ0123456789.-_" 328)), (e P "MOST_PARTS" 331 (i 8 330)), (e P "LONGEST_PART" 333 (i 12 332)), (e P "is_part" 341 (r 125)), (e P "is_path" 350 (r 132)), (e P "above" 356 (r 137)), (e P "is_beneath" 364 (r 144)), (e P "all_paths" 378 (r 151)), (e P "marks" 392 (r 158)), (e P "clashing" 398 (r 163)), (e P "standing" 411 (r 170)), (e P "clashes" 417 (r 175)), (e P "joined" 432 (r 182)), (e P "done" 445 (r 189)), (e P "changed" 455 (r 196)), (e P "Book" 579 (r 286)), (e P "_law_whole" 588 (r 297)), (e P "_law_cell_at" 596 (r 304)), (e P "_law_sign_by" 603 (r 311)), (e P "_law_paths" 610 (r 318)), (e P "_law_joins" 623 (r 325)), (e P "_law_grows" 635 (r 332)), (e P "_law_known" 647 (r 339)), (e P "_law_due" 653 (r 344)), (e P "_law_told" 659 (r 349)), (e P "_law_asked" 672 (r 356)), (e P "law" 678 (r 361))]
noncomputable def o3_0 (P : Params) : Obj := D ((e P "__name__" 165 (s "threeroad.errors" 194)) :: ((eo3 P).drop 1).take 11) 12
noncomputable def o3_1 (P : Params) : Obj := D ((e P "__name__" 165 (s "threeroad.errors" 194)) :: ((eo3 P).drop 1).take 13) 14
noncomputable def o3_2 (P : Params) : Obj := D ((e P "__name__" 165 (s "threeroad.errors" 194)) :: ((eo3 P).drop 1).take 15) 16
noncomputable def o3_3 (P : Params) : Obj := D ((e P "__name__" 165 (s "threeroad.paths" 326)) :: ((eo3 P).drop 1).take 18) 19
noncomputable def o3_4 (P : Params) : Obj := D ((e P "__name__" 165 (s "threeroad.book" 456)) :: ((eo3 P).drop 1).take 32) 33
noncomputable def o3_5 (P : Params) : Obj := D ((e P "__name__" 165 (s "threeroad.book" 456)) :: ((eo3 P).drop 1).take 33) 34
noncomputable def o3_6 (P : Params) : Obj := D (eo3 P) 45
noncomputable def eo12 : List Value := [(z 1), (z 0), (r 20), (z 5), (z 0), (r 27), (z 7), (z 0), (r 40), (z 9), (z 0), (r 52), (z 11), (z 0), (r 64), (z 13), (z 0), (r 76), (z 15), (z 0), (r 88), (z 17), (z 0), (r 100), (z 19), (z 0), (r 112), (z 25), (z 0), (r 124), (z 32), (z 0), (r 131), (z 40), (z 0), (r 136), (z 43), (z 0), (r 143), (z 46), (z 0), (r 150), (z 52), (z 0), (r 157), (z 68), (z 0), (r 162), (z 70), (z 0), (r 169), (z 80), (z 0), (r 174), (z 88), (z 0), (r 181), (z 111), (z 0), (r 188), (z 126), (z 0), (r 195), (z 132), (z 0), (r 202), (z 196), (z 0), (r 296), (z 198), (z 0), (r 303), (z 202), (z 0), (r 310), (z 204), (z 0), (r 317), (z 206), (z 0), (r 324), (z 216), (z 0), (r 331), (z 225), (z 0), (r 338), (z 234), (z 0), (r 343), (z 243), (z 0), (r 348), (z 252), (z 0), (r 355), (z 257), (z 0), (r 360)]
noncomputable def o12_0 (P : Params) : Obj := E (eo12.take 0)
noncomputable def o12_1 (P : Params) : Obj := E (eo12.take 9)
noncomputable def o12_2 (P : Params) : Obj := E (eo12.take 15)
noncomputable def o12_3 (P : Params) : Obj := E (eo12.take 21)
noncomputable def o12_4 (P : Params) : Obj := E (eo12.take 27)
noncomputable def o12_5 (P : Params) : Obj := E (eo12.take 63)
noncomputable def o12_6 (P : Params) : Obj := E (eo12.take 66)
noncomputable def o12_7 (P : Params) : Obj := E (eo12.take 99)
noncomputable def o31_0 (P : Params) : Obj := (.mk (t "type") none (.cls (.mk "RoadError" [(t "ValueError")] [(r 31), (t "ValueError"), (t "Exception"), (t "BaseException"), (t "object")] 30 "RoadError" true [] [(r 44)] false none false)) (List.toArray [(some (r 22)), none, (some (s "RoadError" 196)), (some (s "RoadError" 204)), (some (u "ValueError.__new__")), (some (.bool true))]))
noncomputable def o31_1 (P : Params) : Obj := (.mk (t "type") none (.cls (.mk "RoadError" [(t "ValueError")] [(r 31), (t "ValueError"), (t "Exception"), (t "BaseException"), (t "object")] 30 "RoadError" true [] [(r 44), (r 56), (r 68)] false none false)) (List.toArray [(some (r 22)), none, (some (s "RoadError" 196)), (some (s "RoadError" 204)), (some (u "ValueError.__new__")), (some (.bool true))]))
noncomputable def o31_2 (P : Params) : Obj := (.mk (t "type") none (.cls (.mk "RoadError" [(t "ValueError")] [(r 31), (t "ValueError"), (t "Exception"), (t "BaseException"), (t "object")] 30 "RoadError" true [] [(r 44), (r 56), (r 68), (r 80), (r 92)] false none false)) (List.toArray [(some (r 22)), none, (some (s "RoadError" 196)), (some (s "RoadError" 204)), (some (u "ValueError.__new__")), (some (.bool true))]))
noncomputable def o31_3 (P : Params) : Obj := (.mk (t "type") none (.cls (.mk "RoadError" [(t "ValueError")] [(r 31), (t "ValueError"), (t "Exception"), (t "BaseException"), (t "object")] 30 "RoadError" true [] [(r 44), (r 56), (r 68), (r 80), (r 92), (r 104), (r 116)] false none false)) (List.toArray [(some (r 22)), none, (some (s "RoadError" 196)), (some (s "RoadError" 204)), (some (u "ValueError.__new__")), (some (.bool true))]))
noncomputable def lz (P : Params) : List Obj := [boot_o_0 P, boot_o_1 P, boot_o_2 P, o3_6 P, boot_o_4 P, boot_o_5 P, boot_o_6 P, boot_o_7 P, boot_o_8 P, boot_o_9 P, boot_o_10 P, T [], o12_7 P, K "<module>" "<module>" 182 1 0 0 11 false n n n n 185, M 13 3 3 (s "__main__" 164), T [], E [], T [(s "k" 190)], T [], G "_wall" "_wall" TB 0, K "_wall" "_wall" 187 1 1 3 15 true n (r 17) (r 18) (r 19) 191, F "_wall" "_wall" TB 0 3 (s "__main__" 164) (r 20), T [(t "ValueError")], O "builtin_function_or_method" [(u "type.__prepare__"), (t "type")], D [(e P "__module__" 203 (s "threeroad.errors" 194)), (e P "__qualname__" 205 (s "RoadError" 204)), (e P "__firstlineno__" 207 (i 5 206)), (e P "__static_attributes__" 208 (r 29))] 4, T [], E [], K "RoadError" "RoadError" 198 5 0 0 25 false n n n n 201, M 27 3 24 (s "threeroad.errors" 194), T [], D [(e P "__module__" 203 (s "threeroad.errors" 194)), (e P "__firstlineno__" 207 (i 5 206)), (e P "__static_attributes__" 208 (r 29)), (e P "__weakref__" 210 (r 32)), (e P "__doc__" 211 n)] 3, o31_3 P, O "getset_descriptor" [(s "__weakref__" 209), (r 31), (u "ExceptionGroup.__weakref__"), n], O "super" [(r 31), (r 31), (r 31)], O "builtin_function_or_method" [(u "object.__init_subclass__"), (r 31)], T [(r 31)], O "builtin_function_or_method" [(u "type.__prepare__"), (t "type")], D [(e P "__module__" 221 (s "threeroad.errors" 194)), (e P "__qualname__" 223 (s "NoPath" 222)), (e P "__firstlineno__" 225 (i 7 224)), (e P "__static_attributes__" 226 (r 42))] 4, T [], E [], K "NoPath" "NoPath" 216 7 0 0 38 false n n n n 219, M 40 3 37 (s "threeroad.errors" 194), T [], D [(e P "__module__" 221 (s "threeroad.errors" 194)), (e P "__firstlineno__" 225 (i 7 224)), (e P "__static_attributes__" 226 (r 42)), (e P "__doc__" 227 n)] 2, (.mk (t "type") none (.cls (.mk "NoPath" [(r 31)] [(r 44), (r 31), (t "ValueError"), (t "Exception"), (t "BaseException"), (t "object")] 43 "NoPath" true [] [] false none false)) (List.toArray [(some (r 35)), none, (some (s "NoPath" 214)), (some (s "NoPath" 222)), (some (u "ValueError.__new__")), (some (.bool true))])), O "super" [(r 44), (r 44), (r 44)], O "builtin_function_or_method" [(u "object.__init_subclass__"), (r 44)], T [(r 31)], O "builtin_function_or_method" [(u "type.__prepare__"), (t "type")], D [(e P "__module__" 237 (s "threeroad.errors" 194)), (e P "__qualname__" 239 (s "NoFile" 238)), (e P "__firstlineno__" 241 (i 9 240)), (e P "__static_attributes__" 242 (r 54))] 4, T [], E [], K "NoFile" "NoFile" 232 9 0 0 50 false n n n n 235, M 52 3 49 (s "threeroad.errors" 194), T [], D [(e P "__module__" 237 (s "threeroad.errors" 194)), (e P "__firstlineno__" 241 (i 9 240)), (e P "__static_attributes__" 242 (r 54)), (e P "__doc__" 243 n)] 2, (.mk (t "type") none (.cls (.mk "NoFile" [(r 31)] [(r 56), (r 31), (t "ValueError"), (t "Exception"), (t "BaseException"), (t "object")] 55 "NoFile" true [] [] false none false)) (List.toArray [(some (r 47)), none, (some (s "NoFile" 230)), (some (s "NoFile" 238)), (some (u "ValueError.__new__")), (some (.bool true))])), O "super" [(r 56), (r 56), (r 56)], O "builtin_function_or_method" [(u "object.__init_subclass__"), (r 56)], T [(r 31)], O "builtin_function_or_method" [(u "type.__prepare__"), (t "type")], D [(e P "__module__" 253 (s "threeroad.errors" 194)), (e P "__qualname__" 255 (s "InTheWay" 254)), (e P "__firstlineno__" 257 (i 11 256)), (e P "__static_attributes__" 258 (r 66))] 4, T [], E [], K "InTheWay" "InTheWay" 248 11 0 0 62 false n n n n 251, M 64 3 61 (s "threeroad.errors" 194), T [], D [(e P "__module__" 253 (s "threeroad.errors" 194)), (e P "__firstlineno__" 257 (i 11 256)), (e P "__static_attributes__" 258 (r 66)), (e P "__doc__" 259 n)] 2, (.mk (t "type") none (.cls (.mk "InTheWay" [(r 31)] [(r 68), (r 31), (t "ValueError"), (t "Exception"), (t "BaseException"), (t "object")] 67 "InTheWay" true [] [] false none false)) (List.toArray [(some (r 59)), none, (some (s "InTheWay" 246)), (some (s "InTheWay" 254)), (some (u "ValueError.__new__")), (some (.bool true))])), O "super" [(r 68), (r 68), (r 68)], O "builtin_function_or_method" [(u "object.__init_subclass__"), (r 68)], T [(r 31)], O "builtin_function_or_method" [(u "type.__prepare__"), (t "type")], D [(e P "__module__" 269 (s "threeroad.errors" 194)), (e P "__qualname__" 271 (s "NoClash" 270)), (e P "__firstlineno__" 273 (i 13 272)), (e P "__static_attributes__" 274 (r 78))] 4, T [], E [], K "NoClash" "NoClash" 264 13 0 0 74 false n n n n 267, M 76 3 73 (s "threeroad.errors" 194), T [], D [(e P "__module__" 269 (s "threeroad.errors" 194)), (e P "__firstlineno__" 273 (i 13 272)), (e P "__static_attributes__" 274 (r 78)), (e P "__doc__" 275 n)] 2, (.mk (t "type") none (.cls (.mk "NoClash" [(r 31)] [(r 80), (r 31), (t "ValueError"), (t "Exception"), (t "BaseException"), (t "object")] 79 "NoClash" true [] [] false none false)) (List.toArray [(some (r 71)), none, (some (s "NoClash" 262)), (some (s "NoClash" 270)), (some (u "ValueError.__new__")), (some (.bool true))])), O "super" [(r 80), (r 80), (r 80)], O "builtin_function_or_method" [(u "object.__init_subclass__"), (r 80)], T [(r 31)], O "builtin_function_or_method" [(u "type.__prepare__"), (t "type")], D [(e P "__module__" 285 (s "threeroad.errors" 194)), (e P "__qualname__" 287 (s "Clashed" 286)), (e P "__firstlineno__" 289 (i 15 288)), (e P "__static_attributes__" 290 (r 90))] 4, T [], E [], K "Clashed" "Clashed" 280 15 0 0 86 false n n n n 283, M 88 3 85 (s "threeroad.errors" 194), T [], D [(e P "__module__" 285 (s "threeroad.errors" 194)), (e P "__firstlineno__" 289 (i 15 288)), (e P "__static_attributes__" 290 (r 90)), (e P "__doc__" 291 n)] 2, (.mk (t "type") none (.cls (.mk "Clashed" [(r 31)] [(r 92), (r 31), (t "ValueError"), (t "Exception"), (t "BaseException"), (t "object")] 91 "Clashed" true [] [] false none false)) (List.toArray [(some (r 83)), none, (some (s "Clashed" 278)), (some (s "Clashed" 286)), (some (u "ValueError.__new__")), (some (.bool true))])), O "super" [(r 92), (r 92), (r 92)], O "builtin_function_or_method" [(u "object.__init_subclass__"), (r 92)], T [(r 31)], O "builtin_function_or_method" [(u "type.__prepare__"), (t "type")], D [(e P "__module__" 301 (s "threeroad.errors" 194)), (e P "__qualname__" 303 (s "NoVersion" 302)), (e P "__firstlineno__" 305 (i 17 304)), (e P "__static_attributes__" 306 (r 102))] 4, T [], E [], K "NoVersion" "NoVersion" 296 17 0 0 98 false n n n n 299, M 100 3 97 (s "threeroad.errors" 194), T [], D [(e P "__module__" 301 (s "threeroad.errors" 194)), (e P "__firstlineno__" 305 (i 17 304)), (e P "__static_attributes__" 306 (r 102)), (e P "__doc__" 307 n)] 2, (.mk (t "type") none (.cls (.mk "NoVersion" [(r 31)] [(r 104), (r 31), (t "ValueError"), (t "Exception"), (t "BaseException"), (t "object")] 103 "NoVersion" true [] [] false none false)) (List.toArray [(some (r 95)), none, (some (s "NoVersion" 294)), (some (s "NoVersion" 302)), (some (u "ValueError.__new__")), (some (.bool true))])), O "super" [(r 104), (r 104), (r 104)], O "builtin_function_or_method" [(u "object.__init_subclass__"), (r 104)], T [(r 31)], O "builtin_function_or_method" [(u "type.__prepare__"), (t "type")], D [(e P "__module__" 317 (s "threeroad.errors" 194)), (e P "__qualname__" 319 (s "SameVersion" 318)), (e P "__firstlineno__" 321 (i 19 320)), (e P "__static_attributes__" 322 (r 114))] 4, T [], E [], K "SameVersion" "SameVersion" 312 19 0 0 110 false n n n n 315, M 112 3 109 (s "threeroad.errors" 194), T [], D [(e P "__module__" 317 (s "threeroad.errors" 194)), (e P "__firstlineno__" 321 (i 19 320)), (e P "__static_attributes__" 322 (r 114)), (e P "__doc__" 323 n)] 2, (.mk (t "type") none (.cls (.mk "SameVersion" [(r 31)] [(r 116), (r 31), (t "ValueError"), (t "Exception"), (t "BaseException"), (t "object")] 115 "SameVersion" true [] [] false none false)) (List.toArray [(some (r 107)), none, (some (s "SameVersion" 310)), (some (s "SameVersion" 318)), (some (u "ValueError.__new__")), (some (.bool true))])), O "super" [(r 116), (r 116), (r 116)], O "builtin_function_or_method" [(u "object.__init_subclass__"), (r 116)], T [], E [], T [(s "text" 337), (s "sign" 338)], T [], G "is_part" "is_part" TB 14, K "is_part" "is_part" 334 25 1 3 119 true n (r 121) (r 122) (r 123) 339, F "is_part" "is_part" TB 14 3 (s "threeroad.paths" 326) (r 124), T [], E [], T [(s "text" 345), (s "parts" 346), (s "part" 347)], T [], G "is_path" "is_path" TB 15, K "is_path" "is_path" 342 32 1 3 126 true n (r 128) (r 129) (r 130) 348, F "is_path" "is_path" TB 15 3 (s "threeroad.paths" 326) (r 131), T [], E [], G "above" "above" TB 16, K "above" "above" 351 40 1 3 133 true n n n (r 135) 354, F "above" "above" TB 16 3 (s "threeroad.paths" 326) (r 136), T [], E [], T [(s "path" 360), (s "upper" 361)], T [], G "is_beneath" "is_beneath" TB 17, K "is_beneath" "is_beneath" 357 43 2 3 138 true n (r 140) (r 141) (r 142) 362, F "is_beneath" "is_beneath" TB 17 3 (s "threeroad.paths" 326) (r 143), T [], E [], T [(s "elder" 370), (s "one" 371), (s "other" 372), (s "found" 373), (s "tree" 374), (s "path" 375)], T [], G "all_paths" "all_paths" TB 19, K "all_paths" "all_paths" 367 46 3 3 145 true n (r 147) (r 148) (r 149) 376, F "all_paths" "all_paths" TB 19 3 (s "threeroad.joining" 365) (r 150), T [], E [], T [(s "elder" 382), (s "one" 383), (s "other" 384), (s "told" 385), (s "path" 386), (s "was" 387), (s "mine" 388), (s "theirs" 389)], T [], G "marks" "marks" TB 20, K "marks" "marks" 379 52 3 3 152 true n (r 154) (r 155) (r 156) 390, F "marks" "marks" TB 20 3 (s "threeroad.joining" 365) (r 157), T [], E [], G "clashing" "clashing" TB 21, K "clashing" "clashing" 393 68 3 3 159 true n n n (r 161) 396, F "clashing" "clashing" TB 21 3 (s "threeroad.joining" 365) (r 162), T [], E [], T [(s "elder" 402), (s "one" 403), (s "other" 404), (s "away" 405), (s "found" 406), (s "path" 407), (s "text" 408)], T [], G "standing" "standing" TB 22, K "standing" "standing" 399 70 3 3 164 true n (r 166) (r 167) (r 168) 409, F "standing" "standing" TB 22 3 (s "threeroad.joining" 365) (r 169), T [], E [], G "clashes" "clashes" TB 23, K "clashes" "clashes" 412 80 3 3 171 true n n n (r 173) 415, F "clashes" "clashes" TB 23 3 (s "threeroad.joining" 365) (r 174), T [], E [], T [(s "elder" 421), (s "one" 422), (s "other" 423), (s "picks" 424), (s "known" 425), (s "clash" 426), (s "path" 427), (s "files" 428), (s "folder" 429)], T [], G "joined" "joined" TB 24, K "joined" "joined" 418 88 4 3 176 true n (r 178) (r 179) (r 180) 430, F "joined" "joined" TB 24 3 (s "threeroad.joining" 365) (r 181), T [], E [], T [(s "tree" 438), (s "deed" 439), (s "path" 440), (s "fresh" 441), (s "other" 442)], T [], G "done" "done" TB 26, K "done" "done" 435 111 2 3 183 true n (r 185) (r 186) (r 187) 443, F "done" "done" TB 26 3 (s "threeroad.trees" 433) (r 188), T [], E [], T [(s "tree" 449), (s "deeds" 450), (s "fresh" 451), (s "deed" 452)], T [], G "changed" "changed" TB 27, K "changed" "changed" 446 126 2 3 190 true n (r 192) (r 193) (r 194) 453, F "changed" "changed" TB 27 3 (s "threeroad.trees" 433) (r 195), T [], O "builtin_function_or_method" [(u "type.__prepare__"), (t "type")], D [(e P "__module__" 465 (s "threeroad.book" 456)), (e P "__qualname__" 467 (s "Book" 466)), (e P "__firstlineno__" 469 (i 132 468)), (e P "__init__" 476 (r 210)), (e P "need" 484 (r 217)), (e P "many" 491 (r 224)), (e P "tree" 499 (r 231)), (e P "parents" 507 (r 238)), (e P "put_down" 516 (r 245)), (e P "grow" 525 (r 252)), (e P "merge" 537 (r 259)), (e P "elders" 548 (r 266)), (e P "nearest" 554 (r 271)), (e P "road" 563 (r 278)), (e P "story" 569 (r 283)), (e P "__static_attributes__" 572 (r 284))] 16, T [], E [(z 134), (z 4), (r 209), (z 138), (z 4), (r 216), (z 142), (z 4), (r 223), (z 145), (z 4), (r 230), (z 149), (z 4), (r 237), (z 153), (z 4), (r 244), (z 158), (z 4), (r 251), (z 162), (z 4), (r 258), (z 171), (z 4), (r 265), (z 180), (z 4), (r 270), (z 184), (z 4), (r 277), (z 187), (z 4), (r 282)], K "Book" "Book" 460 132 0 0 200 false n n n n 463, M 202 3 199 (s "threeroad.book" 456), T [], E [], T [(s "self" 473)], T [], G "__init__" "Book.__init__" (cB TB 29) 0, K "__init__" "Book.__init__" 470 134 1 3 204 true n (r 206) (r 207) (r 208) 474, F "__init__" "Book.__init__" (cB TB 29) 0 3 (s "threeroad.book" 456) (r 209), T [], E [], T [(s "self" 480), (s "number" 481)], T [], G "need" "Book.need" (cB TB 29) 1, K "need" "Book.need" 477 138 2 3 211 true n (r 213) (r 214) (r 215) 482, F "need" "Book.need" (cB TB 29) 1 3 (s "threeroad.book" 456) (r 216), T [], E [], T [(s "self" 488)], T [], G "many" "Book.many" (cB TB 29) 2, K "many" "Book.many" 485 142 1 3 218 true n (r 220) (r 221) (r 222) 489, F "many" "Book.many" (cB TB 29) 2 3 (s "threeroad.book" 456) (r 223), T [], E [], T [(s "self" 495), (s "number" 496)], T [], G "tree" "Book.tree" (cB TB 29) 3, K "tree" "Book.tree" 492 145 2 3 225 true n (r 227) (r 228) (r 229) 497, F "tree" "Book.tree" (cB TB 29) 3 3 (s "threeroad.book" 456) (r 230), T [], E [], T [(s "self" 503), (s "number" 504)], T [], G "parents" "Book.parents" (cB TB 29) 4, K "parents" "Book.parents" 500 149 2 3 232 true n (r 234) (r 235) (r 236) 505, F "parents" "Book.parents" (cB TB 29) 4 3 (s "threeroad.book" 456) (r 237), T [], E [], T [(s "self" 511), (s "tree" 512), (s "parents" 513)], T [], G "put_down" "Book.put_down" (cB TB 29) 5, K "put_down" "Book.put_down" 508 153 3 3 239 true n (r 241) (r 242) (r 243) 514, F "put_down" "Book.put_down" (cB TB 29) 5 3 (s "threeroad.book" 456) (r 244), T [], E [], T [(s "self" 520), (s "parent" 521), (s "deeds" 522)], T [], G "grow" "Book.grow" (cB TB 29) 6, K "grow" "Book.grow" 517 158 3 3 246 true n (r 248) (r 249) (r 250) 523, F "grow" "Book.grow" (cB TB 29) 6 3 (s "threeroad.book" 456) (r 251), T [], E [], T [(s "self" 529), (s "one" 530), (s "other" 531), (s "picks" 532), (s "elder" 533), (s "tree" 534)], T [], G "merge" "Book.merge" (cB TB 29) 7, K "merge" "Book.merge" 526 162 4 3 253 true n (r 255) (r 256) (r 257) 535, F "merge" "Book.merge" (cB TB 29) 7 3 (s "threeroad.book" 456) (r 258), T [], E [], T [(s "self" 541), (s "number" 542), (s "found" 543), (s "k" 544), (s "parent" 545)], T [], G "elders" "Book.elders" (cB TB 29) 8, K "elders" "Book.elders" 538 171 2 3 260 true n (r 262) (r 263) (r 264) 546, F "elders" "Book.elders" (cB TB 29) 8 3 (s "threeroad.book" 456) (r 265), T [], E [], G "nearest" "Book.nearest" (cB TB 29) 9, K "nearest" "Book.nearest" 549 180 3 3 267 true n n n (r 269) 552, F "nearest" "Book.nearest" (cB TB 29) 9 3 (s "threeroad.book" 456) (r 270), T [], E [], T [(s "self" 558), (s "elder" 559), (s "number" 560)], T [], G "road" "Book.road" (cB TB 29) 10, K "road" "Book.road" 555 184 3 3 272 true n (r 274) (r 275) (r 276) 561, F "road" "Book.road" (cB TB 29) 10 3 (s "threeroad.book" 456) (r 277), T [], E [], G "story" "Book.story" (cB TB 29) 11, K "story" "Book.story" 564 187 3 3 279 true n n n (r 281) 567, F "story" "Book.story" (cB TB 29) 11 3 (s "threeroad.book" 456) (r 282), T [(s "made_of" 570), (s "trees" 571)], D [(e P "__module__" 465 (s "threeroad.book" 456)), (e P "__firstlineno__" 469 (i 132 468)), (e P "__init__" 476 (r 210)), (e P "need" 484 (r 217)), (e P "many" 491 (r 224)), (e P "tree" 499 (r 231)), (e P "parents" 507 (r 238)), (e P "put_down" 516 (r 245)), (e P "grow" 525 (r 252)), (e P "merge" 537 (r 259)), (e P "elders" 548 (r 266)), (e P "nearest" 554 (r 271)), (e P "road" 563 (r 278)), (e P "story" 569 (r 283)), (e P "__static_attributes__" 572 (r 284)), (e P "__dict__" 574 (r 287)), (e P "__weakref__" 576 (r 288)), (e P "__doc__" 577 n)] 4, (.mk (t "type") none (.cls (.mk "Book" [(t "object")] [(r 286), (t "object")] 285 "Book" true [] [] false none false)) (List.toArray [none, none, (some (s "Book" 458)), (some (s "Book" 466)), (some (u "object.__new__")), (some (.bool true))])), O "getset_descriptor" [(s "__dict__" 573), (r 286), (u "function.__dict__"), (u "function.__dict__#set")], O "getset_descriptor" [(s "__weakref__" 575), (r 286), (u "ExceptionGroup.__weakref__"), n], O "super" [(r 286), (r 286), (r 286)], O "builtin_function_or_method" [(u "object.__init_subclass__"), (r 286)], T [], E [], T [(s "_law_found" 585)], T [], G "_law_whole" "_law_whole" TB 31, K "_law_whole" "_law_whole" 582 196 1 3 291 true n (r 293) (r 294) (r 295) 586, F "_law_whole" "_law_whole" TB 31 3 (s "law_uf050007_13" 580) (r 296), T [], E [], T [(s "_law_script" 592), (s "_law_k" 593)], T [], G "_law_cell_at" "_law_cell_at" TB 32, K "_law_cell_at" "_law_cell_at" 589 198 2 3 298 true n (r 300) (r 301) (r 302) 594, F "_law_cell_at" "_law_cell_at" TB 32 3 (s "law_uf050007_13" 580) (r 303), T [], E [], T [(s "_law_k" 600)], T [], G "_law_sign_by" "_law_sign_by" TB 33, K "_law_sign_by" "_law_sign_by" 597 202 1 3 305 true n (r 307) (r 308) (r 309) 601, F "_law_sign_by" "_law_sign_by" TB 33 3 (s "law_uf050007_13" 580) (r 310), T [], E [], T [(s "_law_shift" 607)], T [], G "_law_paths" "_law_paths" TB 34, K "_law_paths" "_law_paths" 604 204 1 3 312 true n (r 314) (r 315) (r 316) 608, F "_law_paths" "_law_paths" TB 34 3 (s "law_uf050007_13" 580) (r 317), T [], E [], T [(s "_law_book" 614), (s "_law_cell" 615), (s "_law_one" 616), (s "_law_other" 617), (s "_law_elder" 618), (s "_law_picks" 619), (s "_law_clash" 620)], T [], G "_law_joins" "_law_joins" TB 35, K "_law_joins" "_law_joins" 611 206 2 3 319 true n (r 321) (r 322) (r 323) 621, F "_law_joins" "_law_joins" TB 35 3 (s "law_uf050007_13" 580) (r 324), T [], E [], T [(s "_law_book" 627), (s "_law_cell" 628), (s "_law_paths_here" 629), (s "_law_parent" 630), (s "_law_path" 631), (s "_law_deeds" 632)], T [], G "_law_grows" "_law_grows" TB 36, K "_law_grows" "_law_grows" 624 216 3 3 326 true n (r 328) (r 329) (r 330) 633, F "_law_grows" "_law_grows" TB 36 3 (s "law_uf050007_13" 580) (r 331), T [], E [], T [(s "_law_book" 639), (s "_law_number" 640), (s "_law_known_here" 641), (s "_law_step" 642), (s "_law_later" 643), (s "_law_parent" 644)], T [], G "_law_known" "_law_known" TB 37, K "_law_known" "_law_known" 636 225 2 3 333 true n (r 335) (r 336) (r 337) 645, F "_law_known" "_law_known" TB 37 3 (s "law_uf050007_13" 580) (r 338), T [], E [], G "_law_due" "_law_due" TB 38, K "_law_due" "_law_due" 648 234 3 3 340 true n n n (r 342) 651, F "_law_due" "_law_due" TB 38 3 (s "law_uf050007_13" 580) (r 343), T [], E [], G "_law_told" "_law_told" TB 39, K "_law_told" "_law_told" 654 243 2 3 345 true n n n (r 347) 657, F "_law_told" "_law_told" TB 39 3 (s "law_uf050007_13" 580) (r 348), T [], E [], T [(s "_law_script" 663), (s "_law_book" 664), (s "_law_paths_here" 665), (s "_law_shift" 666), (s "_law_odd" 667), (s "_law_cell" 668), (s "_law_numbers" 669)], T [], G "_law_asked" "_law_asked" TB 40, K "_law_asked" "_law_asked" 660 252 4 3 350 true n (r 352) (r 353) (r 354) 670, F "_law_asked" "_law_asked" TB 40 3 (s "law_uf050007_13" 580) (r 355), T [], E [], G "law" "law" TB 41, K "law" "law" 673 257 1 3 357 true n n n (r 359) 676, F "law" "law" TB 41 3 (s "law_uf050007_13" 580) (r 360)]
noncomputable def ob (P : Params) (a : Nat) : Obj := (lz P).getD a default
noncomputable def hp_a (P : Params) : Heap := Heap.mk ⟨(((lz P).take 15).set 3 (boot_o_3 P)).set 12 (o12_0 P)⟩ lfe
abbrev sl_a (w : World) (os : OsState) : Shared := Shared.mk (hp_a w.params) #[] dw 187 os
noncomputable def tr_b (P : Params) : PySem.W.BT := bt 9 ((((lz P).take 15).set 3 (boot_o_3 P)).set 12 (o12_0 P))
abbrev st_b (w : World) (os : OsState) : SharedT := SharedT.mk (tr_b w.params) 15 lfe #[] dw 187 os
theorem q_pre : ∀ w : World, (fun os => topGo treeTable pw w 11 ann 12 (s0 w os) (topStub pw)) = fun os => some (sl_a w os, Thread.mk (denote treeTable cE) cE (ps 0 0 0 0) BB) := fun w => by rw [topGo_q, table_q, denote_q]; kernel_rfl
theorem q_block : ∀ w : World, (fun os => segRun treeTable pw w 11 ann 1 1 (sl_a w os) (blockOf (behindTheImports pw) env cE (ps 0 0 0 0) BB)) = fun os => some (Flow.next, (st_b w os).abs, cE, (ps 0 0 0 0)) := fun w => by rw [segRun_q, table_q]; kernel_rfl
noncomputable def tr_4 (P : Params) : PySem.W.BT := bt 9 (((((lz P).take 47).set 3 (o3_0 P)).set 12 (o12_1 P)).set 31 (o31_0 P))
abbrev st_4 (w : World) (os : OsState) : SharedT := SharedT.mk (tr_4 w.params) 47 lfe #[] dw 230 os
noncomputable def ss_4 : List Stmt := ((behindTheImports pw).drop 0).take 4
theorem q_4 : ∀ w : World, (fun os => segRunT treeTable pw w 11 ann 1 438 (st_b w os) (piecesOf ss_4 env cE (ps 0 0 0 0) BB)) = fun os => some (Flow.next, st_4 w os, cE, (ps 7 0 8 8)) := fun w => by rw [segRunT_q, table_q]; kernel_rfl
noncomputable def tr_6 (P : Params) : PySem.W.BT := bt 9 (((((lz P).take 71).set 3 (o3_1 P)).set 12 (o12_2 P)).set 31 (o31_1 P))
abbrev st_6 (w : World) (os : OsState) : SharedT := SharedT.mk (tr_6 w.params) 71 lfe #[] dw 262 os
noncomputable def ss_6 : List Stmt := ((behindTheImports pw).drop 4).take 2
theorem q_6 : ∀ w : World, (fun os => segRunT treeTable pw w 11 ann 1 427 (st_4 w os) (piecesOf ss_6 env cE (ps 7 0 8 8) BB)) = fun os => some (Flow.next, st_6 w os, cE, (ps 11 0 12 8)) := fun w => by rw [segRunT_q, table_q]; kernel_rfl
noncomputable def tr_8 (P : Params) : PySem.W.BT := bt 9 (((((lz P).take 95).set 3 (o3_2 P)).set 12 (o12_3 P)).set 31 (o31_2 P))
abbrev st_8 (w : World) (os : OsState) : SharedT := SharedT.mk (tr_8 w.params) 95 lfe #[] dw 294 os
noncomputable def ss_8 : List Stmt := ((behindTheImports pw).drop 6).take 2
theorem q_8 : ∀ w : World, (fun os => segRunT treeTable pw w 11 ann 1 427 (st_6 w os) (piecesOf ss_8 env cE (ps 11 0 12 8) BB)) = fun os => some (Flow.next, st_8 w os, cE, (ps 15 0 16 8)) := fun w => by rw [segRunT_q, table_q]; kernel_rfl
noncomputable def tr_12 (P : Params) : PySem.W.BT := bt 9 ((((lz P).take 119).set 3 (o3_3 P)).set 12 (o12_4 P))
abbrev st_12 (w : World) (os : OsState) : SharedT := SharedT.mk (tr_12 w.params) 119 lfe #[] dw 330 os
noncomputable def ss_12 : List Stmt := ((behindTheImports pw).drop 8).take 4
theorem q_12 : ∀ w : World, (fun os => segRunT treeTable pw w 11 ann 1 445 (st_8 w os) (piecesOf ss_12 env cE (ps 15 0 16 8) BB)) = fun os => some (Flow.next, st_12 w os, cE, (ps 22 0 22 5)) := fun w => by rw [segRunT_q, table_q]; kernel_rfl
noncomputable def tr_29 (P : Params) : PySem.W.BT := bt 9 ((((lz P).take 197).set 3 (o3_4 P)).set 12 (o12_5 P))
abbrev st_29 (w : World) (os : OsState) : SharedT := SharedT.mk (tr_29 w.params) 197 lfe #[] dw 458 os
noncomputable def ss_29 : List Stmt := ((behindTheImports pw).drop 12).take 17
theorem q_29 : ∀ w : World, (fun os => segRunT treeTable pw w 11 ann 1 422 (st_12 w os) (piecesOf ss_29 env cE (ps 22 0 22 5) BB)) = fun os => some (Flow.next, st_29 w os, cE, (ps 131 0 131 8)) := fun w => by rw [segRunT_q, table_q]; kernel_rfl
noncomputable def tr_30 (P : Params) : PySem.W.BT := bt 9 ((((lz P).take 291).set 3 (o3_5 P)).set 12 (o12_6 P))
abbrev st_30 (w : World) (os : OsState) : SharedT := SharedT.mk (tr_30 w.params) 291 lfe #[] dw 580 os
noncomputable def ss_30 : List Stmt := ((behindTheImports pw).drop 29).take 1
theorem q_30 : ∀ w : World, (fun os => segRunT treeTable pw w 11 ann 1 576 (st_29 w os) (piecesOf ss_30 env cE (ps 131 0 131 8) BB)) = fun os => some (Flow.next, st_30 w os, cE, (ps 132 0 194 19)) := fun w => by rw [segRunT_q, table_q]; kernel_rfl
noncomputable def tr_42 (P : Params) : PySem.W.BT := bt 9 (lz P)
abbrev st_42 (w : World) (os : OsState) : SharedT := SharedT.mk (tr_42 w.params) 362 lfe #[] dw 679 os
noncomputable def ss_42 : List Stmt := ((behindTheImports pw).drop 30).take 12
theorem q_42 : ∀ w : World, (fun os => segRunT treeTable pw w 11 ann 1 343 (st_30 w os) (piecesOf ss_42 env cE (ps 132 0 194 19) BB)) = fun os => some (Flow.next, st_42 w os, cE, (ps 257 0 275 86)) := fun w => by rw [segRunT_q, table_q]; kernel_rfl
noncomputable def hp_f (P : Params) : Heap := Heap.mk ⟨lz P⟩ lfe
abbrev sl_f (w : World) (os : OsState) : Shared := Shared.mk (hp_f w.params) #[] dw 679 os
theorem q_fin : ∀ w : World, (fun os => topRun treeTable pw w 11 ann 2 (st_42 w os).abs (Thread.mk (doneF .next) cE (ps 257 0 275 86) BB)) = fun os => some (sl_f w os) := fun w => by rw [topRun_q, table_q]; kernel_rfl
theorem body_eq : behindTheImports pw = (ss_4 ++ (ss_6 ++ (ss_8 ++ (ss_12 ++ (ss_29 ++ (ss_30 ++ (ss_42 ++ ([] : List Stmt)))))))) := by kernel_rfl
theorem q_rest (w : World) (os : OsState) : topRun treeTable pw w 11 ann (Nat.add 438 (Nat.add 427 (Nat.add 427 (Nat.add 445 (Nat.add 422 (Nat.add 576 (Nat.add 343 2))))))) (st_b w os).abs (restOf (ss_4 ++ (ss_6 ++ (ss_8 ++ (ss_12 ++ (ss_29 ++ (ss_30 ++ (ss_42 ++ ([] : List Stmt)))))))) env cE (ps 0 0 0 0) BB) = some (sl_f w os) :=
 (piece_app (tb := treeTable) (p := pw) (w := w) (n₀ := 11) (ann := ann) (env := env) (q := qq) (n := 438) (N := (Nat.add 427 (Nat.add 427 (Nat.add 445 (Nat.add 422 (Nat.add 576 (Nat.add 343 2))))))) (s := (st_b w os).abs) (s' := (st_4 w os).abs) (r := sl_f w os) (l := ss_4) (rest := (ss_6 ++ (ss_8 ++ (ss_12 ++ (ss_29 ++ (ss_30 ++ (ss_42 ++ ([] : List Stmt)))))))) (c := cE) (pos := (ps 0 0 0 0)) (p' := (ps 7 0 8 8)) (segRun_of (congrFun (q_4 w) os))
  (piece_app (tb := treeTable) (p := pw) (w := w) (n₀ := 11) (ann := ann) (env := env) (q := qq) (n := 427) (N := (Nat.add 427 (Nat.add 445 (Nat.add 422 (Nat.add 576 (Nat.add 343 2)))))) (s := (st_4 w os).abs) (s' := (st_6 w os).abs) (r := sl_f w os) (l := ss_6) (rest := (ss_8 ++ (ss_12 ++ (ss_29 ++ (ss_30 ++ (ss_42 ++ ([] : List Stmt))))))) (c := cE) (pos := (ps 7 0 8 8)) (p' := (ps 11 0 12 8)) (segRun_of (congrFun (q_6 w) os))
  (piece_app (tb := treeTable) (p := pw) (w := w) (n₀ := 11) (ann := ann) (env := env) (q := qq) (n := 427) (N := (Nat.add 445 (Nat.add 422 (Nat.add 576 (Nat.add 343 2))))) (s := (st_6 w os).abs) (s' := (st_8 w os).abs) (r := sl_f w os) (l := ss_8) (rest := (ss_12 ++ (ss_29 ++ (ss_30 ++ (ss_42 ++ ([] : List Stmt)))))) (c := cE) (pos := (ps 11 0 12 8)) (p' := (ps 15 0 16 8)) (segRun_of (congrFun (q_8 w) os))
  (piece_app (tb := treeTable) (p := pw) (w := w) (n₀ := 11) (ann := ann) (env := env) (q := qq) (n := 445) (N := (Nat.add 422 (Nat.add 576 (Nat.add 343 2)))) (s := (st_8 w os).abs) (s' := (st_12 w os).abs) (r := sl_f w os) (l := ss_12) (rest := (ss_29 ++ (ss_30 ++ (ss_42 ++ ([] : List Stmt))))) (c := cE) (pos := (ps 15 0 16 8)) (p' := (ps 22 0 22 5)) (segRun_of (congrFun (q_12 w) os))
  (piece_app (tb := treeTable) (p := pw) (w := w) (n₀ := 11) (ann := ann) (env := env) (q := qq) (n := 422) (N := (Nat.add 576 (Nat.add 343 2))) (s := (st_12 w os).abs) (s' := (st_29 w os).abs) (r := sl_f w os) (l := ss_29) (rest := (ss_30 ++ (ss_42 ++ ([] : List Stmt)))) (c := cE) (pos := (ps 22 0 22 5)) (p' := (ps 131 0 131 8)) (segRun_of (congrFun (q_29 w) os))
  (piece_app (tb := treeTable) (p := pw) (w := w) (n₀ := 11) (ann := ann) (env := env) (q := qq) (n := 576) (N := (Nat.add 343 2)) (s := (st_29 w os).abs) (s' := (st_30 w os).abs) (r := sl_f w os) (l := ss_30) (rest := (ss_42 ++ ([] : List Stmt))) (c := cE) (pos := (ps 131 0 131 8)) (p' := (ps 132 0 194 19)) (segRun_of (congrFun (q_30 w) os))
  (piece_app (tb := treeTable) (p := pw) (w := w) (n₀ := 11) (ann := ann) (env := env) (q := qq) (n := 343) (N := 2) (s := (st_30 w os).abs) (s' := (st_42 w os).abs) (r := sl_f w os) (l := ss_42) (rest := ([] : List Stmt)) (c := cE) (pos := (ps 132 0 194 19)) (p' := (ps 257 0 275 86)) (segRun_of (congrFun (q_42 w) os))
  (congrFun (q_fin w) os))))))))
theorem q_run (w : World) (os : OsState) : topRun treeTable pw w 11 ann (Nat.add 12 (Nat.add 1 (Nat.add 438 (Nat.add 427 (Nat.add 427 (Nat.add 445 (Nat.add 422 (Nat.add 576 (Nat.add 343 2))))))))) (s0 w os) (topStub pw) = some (sl_f w os) :=
 go_top (congrFun (q_pre w) os) (piece_block (congrFun (q_block w) os) (by rw [show restOf (behindTheImports pw) env cE (ps 0 0 0 0) BB = restOf (ss_4 ++ (ss_6 ++ (ss_8 ++ (ss_12 ++ (ss_29 ++ (ss_30 ++ (ss_42 ++ ([] : List Stmt)))))))) env cE (ps 0 0 0 0) BB from congrArg (fun b => restOf b env cE (ps 0 0 0 0) BB) body_eq]; exact q_rest w os))
theorem q_le : Nat.ble (Nat.add 12 (Nat.add 1 (Nat.add 438 (Nat.add 427 (Nat.add 427 (Nat.add 445 (Nat.add 422 (Nat.add 576 (Nat.add 343 2))))))))) 6268 = true := by kernel_rfl
theorem q_open : ∀ w : World, (fencedOpening treeTable pw w 6268).map (fun s => (s.heap, s.gens, s.drawn, s.toks)) = some (boot_heap w.params, (@Array.mk GenState []), boot_drawn, boot_toks) := boot_open (by kernel_rfl) (by kernel_rfl) (fun _ => by kernel_rfl)
theorem q_size : ∀ w : World, ((boot_heap w.params).isNs mainGlobals && ((@Array.mk GenState [])).size == 0, (boot_heap w.params).objs.size, (boot_heap w.params).nsMap mainGlobals "__annotations__") = (true, 11, ann) := fun w => by kernel_rfl
noncomputable def ks : List Addr := [0, 1, 2, 3, 4, 5, 6, 7, 9, 10, 11, 13, 14, 15, 17, 18, 20, 21, 22, 23, 24, 25, 27, 28, 29, 30, 31, 32, 33, 34, 35, 36, 37, 38, 40, 41, 42, 43, 44, 45, 46, 47, 48, 49, 50, 52, 53, 54, 55, 56, 57, 58, 59, 60, 61, 62, 64, 65, 66, 67, 68, 69, 70, 71, 72, 73, 74, 76, 77, 78, 79, 80, 81, 82, 83, 84, 85, 86, 88, 89, 90, 91, 92, 93, 94, 95, 96, 97, 98, 100, 101, 102, 103, 104, 105, 106, 107, 108, 109, 110, 112, 113, 114, 115, 116, 117, 118, 119, 121, 122, 124, 125, 126, 128, 129, 131, 132, 133, 136, 137, 138, 140, 141, 143, 144, 145, 147, 148, 150, 151, 152, 154, 155, 157, 158, 159, 162, 163, 164, 166, 167, 169, 170, 171, 174, 175, 176, 178, 179, 181, 182, 183, 185, 186, 188, 189, 190, 192, 193, 195, 196, 197, 198, 199, 200, 202, 203, 204, 206, 207, 209, 210, 211, 213, 214, 216, 217, 218, 220, 221, 223, 224, 225, 227, 228, 230, 231, 232, 234, 235, 237, 238, 239, 241, 242, 244, 245, 246, 248, 249, 251, 252, 253, 255, 256, 258, 259, 260, 262, 263, 265, 266, 267, 270, 271, 272, 274, 275, 277, 278, 279, 282, 283, 284, 285, 286, 287, 288, 289, 290, 291, 293, 294, 296, 297, 298, 300, 301, 303, 304, 305, 307, 308, 310, 311, 312, 314, 315, 317, 318, 319, 321, 322, 324, 325, 326, 328, 329, 331, 332, 333, 335, 336, 338, 339, 340, 343, 344, 345, 348, 349, 350, 352, 353, 355, 356, 357, 360, 361]
noncomputable def kk (P : Params) : Frag := ks.map fun a => (a, (lz P).getD a default)
abbrev NN : Nat := 6268
noncomputable def bkA : Addr := 286
noncomputable def bkN : Addr := 285
noncomputable def fd___init__ (P : Params) : FuncData := match (ob P 210).data with | .func fd => fd | _ => default
theorem m___init__ (P : Params) : (kk P).lookup 210 = some (ob P 210) ∧ (ob P 210).cls = .type "function" ∧ (ob P 210).data = .func (fd___init__ P) ∧ codeIn (kk P) (fd___init__ P).code (fd___init__ P).qualname = true ∧ (fd___init__ P).body = .stmts (fB (cB TB 29) 0) ∧ (fd___init__ P).scope = fS (cB TB 29) 0 ∧ (fd___init__ P).closure = [] ∧ (fd___init__ P).globals = mainGlobals ∧ (fd___init__ P).builtins = builtinsNs := by
 refine ⟨?_, ?_, ?_, ?_, ?_, ?_, ?_, ?_, ?_⟩ <;> kernel_rfl
theorem mn___init__ (P : Params) : nsIn (kk P) bkN (Str.ofString "__init__") = some (some (.ref 210)) := by kernel_rfl
noncomputable def fd_need (P : Params) : FuncData := match (ob P 217).data with | .func fd => fd | _ => default
theorem m_need (P : Params) : (kk P).lookup 217 = some (ob P 217) ∧ (ob P 217).cls = .type "function" ∧ (ob P 217).data = .func (fd_need P) ∧ codeIn (kk P) (fd_need P).code (fd_need P).qualname = true ∧ (fd_need P).body = .stmts (fB (cB TB 29) 1) ∧ (fd_need P).scope = fS (cB TB 29) 1 ∧ (fd_need P).closure = [] ∧ (fd_need P).globals = mainGlobals ∧ (fd_need P).builtins = builtinsNs := by
 refine ⟨?_, ?_, ?_, ?_, ?_, ?_, ?_, ?_, ?_⟩ <;> kernel_rfl
theorem mn_need (P : Params) : nsIn (kk P) bkN (Str.ofString "need") = some (some (.ref 217)) := by kernel_rfl
noncomputable def fd_many (P : Params) : FuncData := match (ob P 224).data with | .func fd => fd | _ => default
theorem m_many (P : Params) : (kk P).lookup 224 = some (ob P 224) ∧ (ob P 224).cls = .type "function" ∧ (ob P 224).data = .func (fd_many P) ∧ codeIn (kk P) (fd_many P).code (fd_many P).qualname = true ∧ (fd_many P).body = .stmts (fB (cB TB 29) 2) ∧ (fd_many P).scope = fS (cB TB 29) 2 ∧ (fd_many P).closure = [] ∧ (fd_many P).globals = mainGlobals ∧ (fd_many P).builtins = builtinsNs := by
 refine ⟨?_, ?_, ?_, ?_, ?_, ?_, ?_, ?_, ?_⟩ <;> kernel_rfl
theorem mn_many (P : Params) : nsIn (kk P) bkN (Str.ofString "many") = some (some (.ref 224)) := by kernel_rfl
noncomputable def fd_tree (P : Params) : FuncData := match (ob P 231).data with | .func fd => fd | _ => default
theorem m_tree (P : Params) : (kk P).lookup 231 = some (ob P 231) ∧ (ob P 231).cls = .type "function" ∧ (ob P 231).data = .func (fd_tree P) ∧ codeIn (kk P) (fd_tree P).code (fd_tree P).qualname = true ∧ (fd_tree P).body = .stmts (fB (cB TB 29) 3) ∧ (fd_tree P).scope = fS (cB TB 29) 3 ∧ (fd_tree P).closure = [] ∧ (fd_tree P).globals = mainGlobals ∧ (fd_tree P).builtins = builtinsNs := by
 refine ⟨?_, ?_, ?_, ?_, ?_, ?_, ?_, ?_, ?_⟩ <;> kernel_rfl
theorem mn_tree (P : Params) : nsIn (kk P) bkN (Str.ofString "tree") = some (some (.ref 231)) := by kernel_rfl
noncomputable def fd_parents (P : Params) : FuncData := match (ob P 238).data with | .func fd => fd | _ => default
theorem m_parents (P : Params) : (kk P).lookup 238 = some (ob P 238) ∧ (ob P 238).cls = .type "function" ∧ (ob P 238).data = .func (fd_parents P) ∧ codeIn (kk P) (fd_parents P).code (fd_parents P).qualname = true ∧ (fd_parents P).body = .stmts (fB (cB TB 29) 4) ∧ (fd_parents P).scope = fS (cB TB 29) 4 ∧ (fd_parents P).closure = [] ∧ (fd_parents P).globals = mainGlobals ∧ (fd_parents P).builtins = builtinsNs := by
 refine ⟨?_, ?_, ?_, ?_, ?_, ?_, ?_, ?_, ?_⟩ <;> kernel_rfl
theorem mn_parents (P : Params) : nsIn (kk P) bkN (Str.ofString "parents") = some (some (.ref 238)) := by kernel_rfl
noncomputable def fd_put_down (P : Params) : FuncData := match (ob P 245).data with | .func fd => fd | _ => default
theorem m_put_down (P : Params) : (kk P).lookup 245 = some (ob P 245) ∧ (ob P 245).cls = .type "function" ∧ (ob P 245).data = .func (fd_put_down P) ∧ codeIn (kk P) (fd_put_down P).code (fd_put_down P).qualname = true ∧ (fd_put_down P).body = .stmts (fB (cB TB 29) 5) ∧ (fd_put_down P).scope = fS (cB TB 29) 5 ∧ (fd_put_down P).closure = [] ∧ (fd_put_down P).globals = mainGlobals ∧ (fd_put_down P).builtins = builtinsNs := by
 refine ⟨?_, ?_, ?_, ?_, ?_, ?_, ?_, ?_, ?_⟩ <;> kernel_rfl
theorem mn_put_down (P : Params) : nsIn (kk P) bkN (Str.ofString "put_down") = some (some (.ref 245)) := by kernel_rfl
noncomputable def fd_grow (P : Params) : FuncData := match (ob P 252).data with | .func fd => fd | _ => default
theorem m_grow (P : Params) : (kk P).lookup 252 = some (ob P 252) ∧ (ob P 252).cls = .type "function" ∧ (ob P 252).data = .func (fd_grow P) ∧ codeIn (kk P) (fd_grow P).code (fd_grow P).qualname = true ∧ (fd_grow P).body = .stmts (fB (cB TB 29) 6) ∧ (fd_grow P).scope = fS (cB TB 29) 6 ∧ (fd_grow P).closure = [] ∧ (fd_grow P).globals = mainGlobals ∧ (fd_grow P).builtins = builtinsNs := by
 refine ⟨?_, ?_, ?_, ?_, ?_, ?_, ?_, ?_, ?_⟩ <;> kernel_rfl
theorem mn_grow (P : Params) : nsIn (kk P) bkN (Str.ofString "grow") = some (some (.ref 252)) := by kernel_rfl
noncomputable def fd_merge (P : Params) : FuncData := match (ob P 259).data with | .func fd => fd | _ => default
theorem m_merge (P : Params) : (kk P).lookup 259 = some (ob P 259) ∧ (ob P 259).cls = .type "function" ∧ (ob P 259).data = .func (fd_merge P) ∧ codeIn (kk P) (fd_merge P).code (fd_merge P).qualname = true ∧ (fd_merge P).body = .stmts (fB (cB TB 29) 7) ∧ (fd_merge P).scope = fS (cB TB 29) 7 ∧ (fd_merge P).closure = [] ∧ (fd_merge P).globals = mainGlobals ∧ (fd_merge P).builtins = builtinsNs := by
 refine ⟨?_, ?_, ?_, ?_, ?_, ?_, ?_, ?_, ?_⟩ <;> kernel_rfl
theorem mn_merge (P : Params) : nsIn (kk P) bkN (Str.ofString "merge") = some (some (.ref 259)) := by kernel_rfl
noncomputable def fd_elders (P : Params) : FuncData := match (ob P 266).data with | .func fd => fd | _ => default
theorem m_elders (P : Params) : (kk P).lookup 266 = some (ob P 266) ∧ (ob P 266).cls = .type "function" ∧ (ob P 266).data = .func (fd_elders P) ∧ codeIn (kk P) (fd_elders P).code (fd_elders P).qualname = true ∧ (fd_elders P).body = .stmts (fB (cB TB 29) 8) ∧ (fd_elders P).scope = fS (cB TB 29) 8 ∧ (fd_elders P).closure = [] ∧ (fd_elders P).globals = mainGlobals ∧ (fd_elders P).builtins = builtinsNs := by
 refine ⟨?_, ?_, ?_, ?_, ?_, ?_, ?_, ?_, ?_⟩ <;> kernel_rfl
theorem mn_elders (P : Params) : nsIn (kk P) bkN (Str.ofString "elders") = some (some (.ref 266)) := by kernel_rfl
noncomputable def fd_nearest (P : Params) : FuncData := match (ob P 271).data with | .func fd => fd | _ => default
theorem m_nearest (P : Params) : (kk P).lookup 271 = some (ob P 271) ∧ (ob P 271).cls = .type "function" ∧ (ob P 271).data = .func (fd_nearest P) ∧ codeIn (kk P) (fd_nearest P).code (fd_nearest P).qualname = true ∧ (fd_nearest P).body = .stmts (fB (cB TB 29) 9) ∧ (fd_nearest P).scope = fS (cB TB 29) 9 ∧ (fd_nearest P).closure = [] ∧ (fd_nearest P).globals = mainGlobals ∧ (fd_nearest P).builtins = builtinsNs := by
 refine ⟨?_, ?_, ?_, ?_, ?_, ?_, ?_, ?_, ?_⟩ <;> kernel_rfl
theorem mn_nearest (P : Params) : nsIn (kk P) bkN (Str.ofString "nearest") = some (some (.ref 271)) := by kernel_rfl
noncomputable def fd_road (P : Params) : FuncData := match (ob P 278).data with | .func fd => fd | _ => default
theorem m_road (P : Params) : (kk P).lookup 278 = some (ob P 278) ∧ (ob P 278).cls = .type "function" ∧ (ob P 278).data = .func (fd_road P) ∧ codeIn (kk P) (fd_road P).code (fd_road P).qualname = true ∧ (fd_road P).body = .stmts (fB (cB TB 29) 10) ∧ (fd_road P).scope = fS (cB TB 29) 10 ∧ (fd_road P).closure = [] ∧ (fd_road P).globals = mainGlobals ∧ (fd_road P).builtins = builtinsNs := by
 refine ⟨?_, ?_, ?_, ?_, ?_, ?_, ?_, ?_, ?_⟩ <;> kernel_rfl
theorem mn_road (P : Params) : nsIn (kk P) bkN (Str.ofString "road") = some (some (.ref 278)) := by kernel_rfl
noncomputable def fd_story (P : Params) : FuncData := match (ob P 283).data with | .func fd => fd | _ => default
theorem m_story (P : Params) : (kk P).lookup 283 = some (ob P 283) ∧ (ob P 283).cls = .type "function" ∧ (ob P 283).data = .func (fd_story P) ∧ codeIn (kk P) (fd_story P).code (fd_story P).qualname = true ∧ (fd_story P).body = .stmts (fB (cB TB 29) 11) ∧ (fd_story P).scope = fS (cB TB 29) 11 ∧ (fd_story P).closure = [] ∧ (fd_story P).globals = mainGlobals ∧ (fd_story P).builtins = builtinsNs := by
 refine ⟨?_, ?_, ?_, ?_, ?_, ?_, ?_, ?_, ?_⟩ <;> kernel_rfl
theorem mn_story (P : Params) : nsIn (kk P) bkN (Str.ofString "story") = some (some (.ref 283)) := by kernel_rfl
theorem openSeen_q : @openSeen = @PySem.W.Fast.tw4187177175401517315 := PySem.W.Fast.te4187177175401517315
theorem imods_q : importedModules = PySem.W.Fast.tw5923862056798008813 := PySem.W.Fast.te5923862056798008813
abbrev rw : OpenLaw := PySem.Challenge.rw_uf050007_13
abbrev Xt : Shared → Bool := fun s => xlAt vw [] s && recOk (RowW.records (OpenRow.toRowW rw.row)) s
abbrev HK : Hook := kHook kk ks (fun _ => by kernel_rfl)
theorem l_1 : ∀ w : World, (fun os => (staticsOk (importedModules pw.main.body) (boot_heap w.params) (hp_f w.params) && namesBound pw (hp_f w.params) && gensDone (sl_f w os) && laidKept (boot_heap w.params) (hp_f w.params))) = fun _ : OsState => true := fun w => by rw [imods_q]; kernel_rfl
theorem l_2 : ∀ w : World, (fun os => openSeen vw [] (importedModules pw.main.body) Xt true (sl_f w os)) = fun _ : OsState => openGood vw [] := fun w => by rw [imods_q, openSeen_q]; kernel_rfl
theorem l_3 : ∀ w : World, (fun os => HK.obs (sl_f w os)) = fun _ : OsState => HK.val w := fun w => by kernel_rfl
theorem left : LeftO pw vw [] Xt HK.obs HK.val NN :=
 LeftO.of_pieces (p := pw) (q := vw) (loose := []) (Xt := Xt) (Yf := HK.obs) (Ya := HK.val) (N := NN) (g0 := true) (H₀ := boot_heap) (H₁ := hp_f) q_open q_size q_run q_le
  fun w => funext fun os => looks_pair (congrFun (l_1 w) os) (looks_pair (congrFun (l_2 w) os) (congrFun (l_3 w) os))
theorem said : rw.wellSaid = true := by
 unfold OpenLaw.wellSaid OpenRow.wellSaid OpenRow.partSaid looksOpen
 repeat' (with_reducible refine look_both ?_ ?_)
 all_goals decide +kernel
theorem hd {d : DefRec} {kwd : List (Str × Expr)} (hdef : defOf vw rw.row.name = some (d, kwd)) (hp : rw.row.prog.theDef rw.row.name = some (d.params, d.body, d.scope)) (hk : kwWritten? d.params.kwonlyargs d.params.kw_defaults = some kwd)
  (call : WalkO vw [] (XL vw []) HK.says rw.row.toRowW d kwd fun f vs => PySem.call f vs) : rw.Holds :=
 holds_law said fun said' =>
  holds_open (q := vw) (loose := []) (Xt := Xt) (XP := XL vw []) (Yf := HK.obs) (Ya := HK.val) (YP := HK.says) (N := NN) left HK.of HK.keeps (fun s e => xl_of s (Bool.and_eq_true_iff.mp e).1) XL.keeps hdef hp hk
   (fun s e => recFacts_of (Bool.and_eq_true_iff.mp e).2) (by rfl) said' (by decide +kernel) ⟨rfl, rfl, rfl, rfl, rfl, by decide +kernel⟩ (by w_witness2) call
end
end Hd
end Mine
end
noncomputable section
namespace Mine
open PySem PySem.W PyProof.Rows PySem.Calls
noncomputable def tX : Str := Str.ofString "abcdefghijklmnopqrstuvwxyzABCDEFGHIJKLMNOPQRSTUVWXYZ0123456789.-_"
noncomputable def iP (k : Int) : Str := ⟨#[(cl tX).getD (k % 65).toNat 0]⟩
noncomputable def bN (x : Str) : Bool := decide (x ≠ Str.ofString "." ∧ x ≠ Str.ofString ".." ∧ 1 ≤ x.length ∧ x.length ≤ 12) && (cl x).all fun c => Txt.contains tX ⟨#[c]⟩
noncomputable def cx (x : Str) : Bool := decide ((Txt.split x (Str.ofString "/")).length ≤ 8) && (Txt.split x (Str.ofString "/")).all bN
noncomputable def keysOf (kvs : List (Str × V)) : List Str := kvs.map (·.1)
noncomputable def db (x : Str) : List Str := (List.range ((Txt.split x (Str.ofString "/")).length - 1)).map fun i => Str.join (Str.ofString "/") ((Txt.split x (Str.ofString "/")).take (i + 1))
structure Kp (K : List Str) : Prop where
 few : K.length ≤ 3
 ok : ∀ x ∈ K, cx x = true
 len : ∀ x ∈ K, x.length ≤ 12
 ben : ∀ x ∈ K, ∀ y ∈ K, Txt.startswith x (y ++ Str.ofString "/") = false
 abv : ∀ x ∈ K, ∀ u ∈ db x, u ∉ K
structure Inn (K : List Str) (kvs : List (Str × V)) : Prop where
 sub : ∀ x ∈ keysOf kvs, x ∈ K
 val : ∀ q ∈ kvs, ∃ y, q.2 = .str y
 nodup : (keysOf kvs).Nodup
noncomputable def gS (kvs : List (Str × V)) (x : Str) : Option Str := match cA kvs x with | some (.str y) => some y | _ => Option.none
noncomputable def jx : Option Str → V
 | Option.none => .none
 | some y => .str y
noncomputable def Cl (a b c : List (Str × V)) (x : Str) : Prop := gS b x ≠ gS c x ∧ gS c x ≠ gS a x ∧ gS b x ≠ gS a x
structure Pick (a b c pk : List (Str × V)) : Prop where
 mem : ∀ x, x ∈ keysOf pk ↔ Cl a b c x
 val : ∀ q ∈ pk, ∃ o, q.2 = jx o
 nodup : (keysOf pk).Nodup
noncomputable def pC (q : Str × Str) : V := .tup [.str (Str.ofString "put"), .str q.1, .str q.2]
noncomputable def sU (x : Str) : V := .tup [.str (Str.ofString "cut"), .str x]
inductive Deed (K : List Str) (kvs : List (Str × V)) : V → Prop
 | put (x y : Str) (h : x ∈ K) : Deed K kvs (pC (x, y))
 | cut (x : Str) (h : x ∈ K) (hk : x ∈ keysOf kvs) : Deed K kvs (sU x)
noncomputable def Keep (S : List Addr) (σ σ' : ah) : Prop := ∀ b o, σ b = some o → b ∉ S → σ' b = some o
noncomputable def gV (ps : List (List Int)) : List V := ps.map fun p => .tup (p.map .int)
structure Ord (ps : List (List Int)) : Prop where
 two : ∀ (k : Nat) l, ps[k]? = some l → l.length ≤ 2
 lt : ∀ (k : Nat) l, ps[k]? = some l → ∀ p ∈ l, 0 ≤ p ∧ p < (k : Int)
 some : ∀ (k : Nat) l, ps[k]? = Option.some l → 0 < k → l ≠ []
 few : ps.length ≤ 60
 pos : 0 < ps.length
structure BookAt (K : List Str) (σ : ah) (b t mo : Addr) (ads : List Addr) (ts : List (List (Str × V))) (ps : List (List Int)) : Prop where
 obj : ∃ dx, σ b = some (.inst dx) ∧ σ dx = some (.ns [("made_of", .ref mo), ("trees", .ref t)])
 tr : σ t = some (.list (ads.map .ref))
 md : σ mo = some (.list (gV ps))
 ne : t ≠ mo
 len : ads.length = ts.length
 lenP : ps.length = ts.length
 at_ : ∀ (i : Nat) d, ads[i]? = some d → ∃ kvs ep, ts[i]? = some kvs ∧ σ d = some (.dict kvs ep)
 un : Kp K
 tree : ∀ kvs ∈ ts, Inn K kvs
 ord : Ord ps
inductive Anc (ps : List (List Int)) : Int → Int → Prop
 | self (n : Int) : Anc ps n n
 | up {n p x : Int} {l : List Int} : ps[n.toNat]? = some l → p ∈ l → Anc ps p x → Anc ps n x
structure Eld (ps : List (List Int)) (n : Int) (xs : List Int) : Prop where
 lt : xs.Pairwise (· < ·)
 mem : ∀ x, x ∈ xs ↔ Anc ps n x
structure Near (ps : List (List Int)) (n m M : Int) : Prop where
 a1 : Anc ps n M
 a2 : Anc ps m M
 max : ∀ z, Anc ps n z → Anc ps m z → z ≤ M
noncomputable def im (ts : List (List (Str × V))) (ps : List (List Int)) (x : Str) (e : Int) : Prop := ∃ l kvs, ps[e.toNat]? = some l ∧ ts[e.toNat]? = some kvs ∧ l ≠ [] ∧ ∀ p ∈ l, ∀ kp, ts[p.toNat]? = some kp → gS kp x ≠ gS kvs x
structure Sto (ts : List (List (Str × V))) (ps : List (List Int)) (n : Int) (x : Str) (es : List Int) : Prop where
 lt : es.Pairwise (· < ·)
 mem : ∀ e, e ∈ es ↔ Anc ps n e ∧ im ts ps x e
structure D3 (K : List Str) (a b c : Addr) (ka kb kc : List (Str × V)) (e1 e2 e3 : Nat) (σ : ah) : Prop where
 xa : σ a = some (.dict ka e1)
 xb : σ b = some (.dict kb e2)
 xc : σ c = some (.dict kc e3)
 ta : Inn K ka
 tb : Inn K kb
 tc : Inn K kc
 un : Kp K
noncomputable def iv (q : Int × Str) : V := .tup [.int q.1, .str q.2]
inductive sp_is_part (ns : List Int) (vs : List V) (σ : ah) (Q : V → ah → Prop) : Prop
 | mk (x : _) (h1 : vs = [.str x]) (h2 : x.length ≤ 1000) (h3 : Q (.bool (bN x)) σ) : sp_is_part ns vs σ Q
inductive sp_is_path (ns : List Int) (vs : List V) (σ : ah) (Q : V → ah → Prop) : Prop
 | mk (x : _) (h1 : vs = [.str x]) (h2 : x.length ≤ 1000) (h3 : ∀ σ', Grow σ σ' → Q (.bool (cx x)) σ') : sp_is_path ns vs σ Q
inductive sp_above (ns : List Int) (vs : List V) (σ : ah) (Q : V → ah → Prop) : Prop
 | mk (x : _) (h1 : vs = [.str x]) (h2 : x.length ≤ 300) (h3 : dK ((db x).map .str) σ Q) : sp_above ns vs σ Q
inductive sp_is_beneath (ns : List Int) (vs : List V) (σ : ah) (Q : V → ah → Prop) : Prop
 | mk (x : _) (y : _) (h1 : vs = [.str x, .str y]) (h2 : y.length ≤ 1000) (h3 : Q (.bool (Txt.startswith x (y ++ Str.ofString "/"))) σ) : sp_is_beneath ns vs σ Q
inductive sp_all_paths (ns : List Int) (vs : List V) (σ : ah) (Q : V → ah → Prop) : Prop
 | mk (K : _) (a : _) (b : _) (c : _) (ka : _) (kb : _) (kc : _) (e1 : _) (e2 : _) (e3 : _) (h1 : vs = [.ref a, .ref b, .ref c]) (h2 : D3 K a b c ka kb kc e1 e2 e3 σ) (h3 : ∀ xs : List Str, (∀ x, x ∈ xs ↔ (x ∈ keysOf ka ∨ x ∈ keysOf kb ∨ x ∈ keysOf kc)) → xs.length ≤ 3 → dK (xs.map .str) σ Q) : sp_all_paths ns vs σ Q
inductive sp_marks (ns : List Int) (vs : List V) (σ : ah) (Q : V → ah → Prop) : Prop
 | mk (K : _) (a : _) (b : _) (c : _) (ka : _) (kb : _) (kc : _) (e1 : _) (e2 : _) (e3 : _) (h1 : vs = [.ref a, .ref b, .ref c]) (h2 : D3 K a b c ka kb kc e1 e2 e3 σ) (h3 : ∀ ws : List (Str × Str), (∀ q ∈ ws, q.2 = Str.ofString "clash" → Cl ka kb kc q.1) → (∀ x, Cl ka kb kc x → (x, Str.ofString "clash") ∈ ws) → ws.length ≤ 3 → dK (ws.map fun q => .tup [.str q.1, .str q.2]) σ Q) : sp_marks ns vs σ Q
inductive sp_clashing (ns : List Int) (vs : List V) (σ : ah) (Q : V → ah → Prop) : Prop
 | mk (K : _) (a : _) (b : _) (c : _) (ka : _) (kb : _) (kc : _) (e1 : _) (e2 : _) (e3 : _) (h1 : vs = [.ref a, .ref b, .ref c]) (h2 : D3 K a b c ka kb kc e1 e2 e3 σ) (h3 : ∀ xs : List Str, (∀ x, x ∈ xs ↔ Cl ka kb kc x) → xs.length ≤ 3 → dK (xs.map .str) σ Q) : sp_clashing ns vs σ Q
inductive sp_standing (ns : List Int) (vs : List V) (σ : ah) (Q : V → ah → Prop) : Prop
 | mk (K : _) (a : _) (b : _) (c : _) (ka : _) (kb : _) (kc : _) (e1 : _) (e2 : _) (e3 : _) (h1 : vs = [.ref a, .ref b, .ref c]) (h2 : D3 K a b c ka kb kc e1 e2 e3 σ) (h3 : ∀ f kvs ep σ', Grow σ σ' → σ f = Option.none → σ' f = some (.dict kvs ep) → Inn K kvs → Q (.ref f) σ') : sp_standing ns vs σ Q
inductive sp_clashes (ns : List Int) (vs : List V) (σ : ah) (Q : V → ah → Prop) : Prop
 | mk (K : _) (a : _) (b : _) (c : _) (ka : _) (kb : _) (kc : _) (e1 : _) (e2 : _) (e3 : _) (h1 : vs = [.ref a, .ref b, .ref c]) (h2 : D3 K a b c ka kb kc e1 e2 e3 σ) (h3 : ∀ xs : List Str, (∀ x, x ∈ xs ↔ Cl ka kb kc x) → xs.length ≤ 3 → dK (xs.map fun x => .tup [.str x]) σ Q) : sp_clashes ns vs σ Q
inductive sp_joined (ns : List Int) (vs : List V) (σ : ah) (Q : V → ah → Prop) : Prop
 | mk (K : _) (a : _) (b : _) (c : _) (ka : _) (kb : _) (kc : _) (e1 : _) (e2 : _) (e3 : _) (p : _) (pk : _) (ep : _) (h1 : vs = [.ref a, .ref b, .ref c, .ref p]) (h2 : D3 K a b c ka kb kc e1 e2 e3 σ) (h3 : σ p = some (.dict pk ep)) (h4 : Pick ka kb kc pk) (h5 : ∀ f kvs ep' σ', Grow σ σ' → σ f = Option.none → σ' f = some (.dict kvs ep') → Inn K kvs → Q (.ref f) σ') : sp_joined ns vs σ Q
inductive sp_done (ns : List Int) (vs : List V) (σ : ah) (Q : V → ah → Prop) : Prop
 | mk (K : _) (a : _) (kvs : _) (ep : _) (d : _) (h1 : vs = [.ref a, d]) (h2 : σ a = some (.dict kvs ep)) (h3 : Kp K) (h4 : Inn K kvs) (h5 : Deed K kvs d) (h6 : ∀ b kvs' ep' σ', Grow σ σ' → σ b = Option.none → σ' b = some (.dict kvs' ep') → Inn K kvs' → Q (.ref b) σ') : sp_done ns vs σ Q
inductive sp_changed (ns : List Int) (vs : List V) (σ : ah) (Q : V → ah → Prop) : Prop
 | mk (K : _) (a : _) (L : _) (kvs : _) (ep : _) (dl : _) (h1 : vs = [.ref a, .ref L]) (h2 : σ a = some (.dict kvs ep)) (h3 : σ L = some (.list dl)) (h4 : dl.length ≤ 1) (h5 : Kp K) (h6 : Inn K kvs) (h7 : (∀ d ∈ dl, Deed K kvs d)) (h8 : ∀ b kvs' ep' σ', Grow σ σ' → σ b = Option.none → σ' b = some (.dict kvs' ep') → Inn K kvs' → Q (.ref b) σ') : sp_changed ns vs σ Q
inductive sp___init__ (ns : List Int) (vs : List V) (σ : ah) (Q : V → ah → Prop) : Prop
 | mk (a : _) (dx : _) (h1 : vs = [.ref a]) (h2 : σ a = some (.inst dx)) (h3 : σ dx = some (.ns [])) (h4 : ∀ t mo d0 ep σ', Keep [dx] σ σ' → σ' dx = some (.ns [("made_of", .ref mo), ("trees", .ref t)]) → σ' t = some (.list [.ref d0]) → σ' mo = some (.list [.tup []]) → σ' d0 = some (.dict [] ep) → t ≠ mo → σ t = Option.none → σ mo = Option.none → σ d0 = Option.none → Q .none σ') : sp___init__ ns vs σ Q
inductive sp_need (ns : List Int) (vs : List V) (σ : ah) (Q : V → ah → Prop) : Prop
 | mk (K : _) (b : _) (t : _) (mo : _) (ads : _) (ts : _) (ps : _) (n : _) (h1 : vs = [.ref b, .int n]) (h2 : BookAt K σ b t mo ads ts ps) (h3 : 0 ≤ n) (h4 : n < ts.length) (h5 : Q .none σ) : sp_need ns vs σ Q
inductive sp_many (ns : List Int) (vs : List V) (σ : ah) (Q : V → ah → Prop) : Prop
 | mk (K : _) (b : _) (t : _) (mo : _) (ads : _) (ts : _) (ps : _) (h1 : vs = [.ref b]) (h2 : BookAt K σ b t mo ads ts ps) (h3 : Q (.int ts.length) σ) : sp_many ns vs σ Q
inductive sp_tree (ns : List Int) (vs : List V) (σ : ah) (Q : V → ah → Prop) : Prop
 | mk (K : _) (b : _) (t : _) (mo : _) (ads : _) (ts : _) (ps : _) (n : _) (kvs : _) (h1 : vs = [.ref b, .int n]) (h2 : BookAt K σ b t mo ads ts ps) (h3 : 0 ≤ n) (h4 : ts[n.toNat]? = some kvs) (h5 : ∀ d ep, σ d = Option.none → Q (.ref d) (aY σ d (.dict kvs ep))) : sp_tree ns vs σ Q
inductive sp_parents (ns : List Int) (vs : List V) (σ : ah) (Q : V → ah → Prop) : Prop
 | mk (K : _) (b : _) (t : _) (mo : _) (ads : _) (ts : _) (ps : _) (n : _) (l : _) (h1 : vs = [.ref b, .int n]) (h2 : BookAt K σ b t mo ads ts ps) (h3 : 0 ≤ n) (h4 : ps[n.toNat]? = some l) (h5 : Q (.tup (l.map .int)) σ) : sp_parents ns vs σ Q
inductive sp_put_down (ns : List Int) (vs : List V) (σ : ah) (Q : V → ah → Prop) : Prop
 | mk (K : _) (b : _) (t : _) (mo : _) (ads : _) (ts : _) (ps : _) (d : _) (kvs : _) (ep : _) (l : _) (h1 : vs = [.ref b, .ref d, .tup (l.map .int)]) (h2 : BookAt K σ b t mo ads ts ps) (h3 : σ d = some (.dict kvs ep)) (h4 : Inn K kvs) (h5 : ts.length < 60) (h6 : l.length ≤ 2) (h7 : l ≠ []) (h8 : (∀ p ∈ l, 0 ≤ p ∧ p < (ts.length : Int))) (h9 : ∀ σ', Keep [t, mo] σ σ' → BookAt K σ' b t mo (ads ++ [d]) (ts ++ [kvs]) (ps ++ [l]) → Q (.int ts.length) σ') : sp_put_down ns vs σ Q
inductive sp_grow (ns : List Int) (vs : List V) (σ : ah) (Q : V → ah → Prop) : Prop
 | mk (K : _) (b : _) (t : _) (mo : _) (ads : _) (ts : _) (ps : _) (n : _) (L : _) (dl : _) (kvs : _) (h1 : vs = [.ref b, .int n, .ref L]) (h2 : BookAt K σ b t mo ads ts ps) (h3 : 0 ≤ n) (h4 : n < ts.length) (h5 : ts[n.toNat]? = some kvs) (h6 : σ L = some (.list dl)) (h7 : dl.length ≤ 1) (h8 : (∀ d ∈ dl, Deed K kvs d)) (h9 : ts.length < 60) (h10 : ∀ ads' ts' ps' σ', Keep [t, mo] σ σ' → BookAt K σ' b t mo ads' ts' ps' → ts'.length = ts.length + 1 → Q (.int ts.length) σ') : sp_grow ns vs σ Q
inductive sp_merge (ns : List Int) (vs : List V) (σ : ah) (Q : V → ah → Prop) : Prop
 | mk (K : _) (b : _) (t : _) (mo : _) (ads : _) (ts : _) (ps : _) (n : _) (m : _) (p : _) (pk : _) (ep : _) (M : _) (ke : _) (kn : _) (km : _) (h1 : vs = [.ref b, .int n, .int m, .ref p]) (h2 : BookAt K σ b t mo ads ts ps) (h3 : 0 ≤ n) (h4 : n < ts.length) (h5 : 0 ≤ m) (h6 : m < ts.length) (h7 : n ≠ m) (h8 : σ p = some (.dict pk ep)) (h9 : Near ps n m M) (h10 : ts[M.toNat]? = some ke) (h11 : ts[n.toNat]? = some kn) (h12 : ts[m.toNat]? = some km) (h13 : Pick ke kn km pk) (h14 : ts.length < 60) (h15 : ∀ ads' ts' ps' σ', Keep [t, mo] σ σ' → BookAt K σ' b t mo ads' ts' ps' → ts'.length = ts.length + 1 → Q (.int ts.length) σ') : sp_merge ns vs σ Q
inductive sp_elders (ns : List Int) (vs : List V) (σ : ah) (Q : V → ah → Prop) : Prop
 | mk (K : _) (b : _) (t : _) (mo : _) (ads : _) (ts : _) (ps : _) (n : _) (h1 : vs = [.ref b, .int n]) (h2 : BookAt K σ b t mo ads ts ps) (h3 : 0 ≤ n) (h4 : n < ts.length) (h5 : ∀ xs, Eld ps n xs → dK (xs.map .int) σ Q) : sp_elders ns vs σ Q
inductive sp_nearest (ns : List Int) (vs : List V) (σ : ah) (Q : V → ah → Prop) : Prop
 | mk (K : _) (b : _) (t : _) (mo : _) (ads : _) (ts : _) (ps : _) (n : _) (m : _) (h1 : vs = [.ref b, .int n, .int m]) (h2 : BookAt K σ b t mo ads ts ps) (h3 : 0 ≤ n) (h4 : n < ts.length) (h5 : 0 ≤ m) (h6 : m < ts.length) (h7 : ∀ M σ', Grow σ σ' → Near ps n m M → Q (.int M) σ') : sp_nearest ns vs σ Q
inductive sp_story (ns : List Int) (vs : List V) (σ : ah) (Q : V → ah → Prop) : Prop
 | mk (K : _) (b : _) (t : _) (mo : _) (ads : _) (ts : _) (ps : _) (n : _) (x : _) (h1 : vs = [.ref b, .int n, .str x]) (h2 : BookAt K σ b t mo ads ts ps) (h3 : 0 ≤ n) (h4 : n < ts.length) (h5 : ∀ es, Sto ts ps n x es → dK (es.map .int) σ Q) : sp_story ns vs σ Q
inductive sp__law_whole (ns : List Int) (vs : List V) (σ : ah) (Q : V → ah → Prop) : Prop
 | mk (n : _) (h1 : vs = [.int n]) (h2 : Q (.bool true) σ) : sp__law_whole ns vs σ Q
inductive sp__law_cell_at (ns : List Int) (vs : List V) (σ : ah) (Q : V → ah → Prop) : Prop
 | mk (k : _) (h1 : vs = [.script, .int k]) (h2 : 0 ≤ k) (h3 : Q (.int (cell ns k)) σ) : sp__law_cell_at ns vs σ Q
inductive sp__law_sign_by (ns : List Int) (vs : List V) (σ : ah) (Q : V → ah → Prop) : Prop
 | mk (k : _) (h1 : vs = [.int k]) (h2 : Q (.str (iP k)) σ) : sp__law_sign_by ns vs σ Q
inductive sp__law_paths (ns : List Int) (vs : List V) (σ : ah) (Q : V → ah → Prop) : Prop
 | mk (k : _) (h1 : vs = [.int k]) (h2 : ∀ x y z, Kp [x, y, z] → cR [.str x, .str y, .str z] σ Q) : sp__law_paths ns vs σ Q
inductive sp__law_joins (ns : List Int) (vs : List V) (σ : ah) (Q : V → ah → Prop) : Prop
 | mk (K : _) (b : _) (t : _) (mo : _) (ads : _) (ts : _) (ps : _) (c : _) (h1 : vs = [.ref b, .int c]) (h2 : BookAt K σ b t mo ads ts ps) (h3 : ts.length < 60) (h4 : ∀ ads' ts' ps' σ', Keep [t, mo] σ σ' → BookAt K σ' b t mo ads' ts' ps' → ts.length ≤ ts'.length → ts'.length ≤ ts.length + 1 → Q .none σ') : sp__law_joins ns vs σ Q
inductive sp__law_grows (ns : List Int) (vs : List V) (σ : ah) (Q : V → ah → Prop) : Prop
 | mk (x : _) (y : _) (z : _) (b : _) (t : _) (mo : _) (ads : _) (ts : _) (ps : _) (c : _) (L : _) (h1 : vs = [.ref b, .int c, .ref L]) (h2 : BookAt [x, y, z] σ b t mo ads ts ps) (h3 : σ L = some (.list [.str x, .str y, .str z])) (h4 : ts.length < 60) (h5 : ∀ ads' ts' ps' σ', Keep [t, mo] σ σ' → BookAt [x, y, z] σ' b t mo ads' ts' ps' → ts.length ≤ ts'.length → ts'.length ≤ ts.length + 1 → Q .none σ') : sp__law_grows ns vs σ Q
inductive sp__law_known (ns : List Int) (vs : List V) (σ : ah) (Q : V → ah → Prop) : Prop
 | mk (K : _) (b : _) (t : _) (mo : _) (ads : _) (ts : _) (ps : _) (n : _) (h1 : vs = [.ref b, .int n]) (h2 : BookAt K σ b t mo ads ts ps) (h3 : 0 ≤ n) (h4 : n < ts.length) (h5 : ∀ bs : List Bool, bs.length = ts.length → (∀ (k : Nat) c, bs[k]? = some c → (c = true ↔ Anc ps n k)) → dK (bs.map .bool) σ Q) : sp__law_known ns vs σ Q
inductive sp__law_due (ns : List Int) (vs : List V) (σ : ah) (Q : V → ah → Prop) : Prop
 | mk (K : _) (b : _) (t : _) (mo : _) (ads : _) (ts : _) (ps : _) (n : _) (x : _) (h1 : vs = [.ref b, .int n, .str x]) (h2 : BookAt K σ b t mo ads ts ps) (h3 : 0 ≤ n) (h4 : n < ts.length) (h5 : ∀ es, Sto ts ps n x es → dK (es.map .int) σ Q) : sp__law_due ns vs σ Q
inductive sp__law_told (ns : List Int) (vs : List V) (σ : ah) (Q : V → ah → Prop) : Prop
 | mk (K : _) (b : _) (t : _) (mo : _) (ads : _) (ts : _) (ps : _) (L : _) (qs : _) (h1 : vs = [.ref b, .ref L]) (h2 : BookAt K σ b t mo ads ts ps) (h3 : σ L = some (.list (List.map iv qs))) (h4 : qs.length ≤ 3) (h5 : (∀ q ∈ qs, 0 ≤ q.1 ∧ q.1 < (ts.length : Int))) (h6 : ∀ σ', Grow σ σ' → Q (.bool true) σ') : sp__law_told ns vs σ Q
inductive sp__law_asked (ns : List Int) (vs : List V) (σ : ah) (Q : V → ah → Prop) : Prop
 | mk (K : _) (b : _) (t : _) (mo : _) (ads : _) (ts : _) (ps : _) (L : _) (x : _) (y : _) (z : _) (i : _) (h1 : vs = [.script, .ref b, .ref L, .int i]) (h2 : BookAt K σ b t mo ads ts ps) (h3 : σ L = some (.list [.str x, .str y, .str z])) (h4 : (i = 1 ∨ i = 7)) (h5 : x.length ≤ 100) (h6 : y.length ≤ 100) (h7 : ∀ qs : List (Int × Str), qs.length ≤ 3 → (∀ q ∈ qs, 0 ≤ q.1 ∧ q.1 < (ts.length : Int)) → dK (qs.map iv) σ Q) : sp__law_asked ns vs σ Q
noncomputable def kw (_ns : List Int) : bK := tH
end Mine
end
noncomputable section
set_option maxRecDepth 100000
set_option maxHeartbeats 4000000
namespace Mine
open PySem PySem.W PyProof.Rows PySem.Calls
theorem bJ : aW "trees" := by unfold aW; rw [typeLookup_type, builtinLookup_eq_fast]; kernel_rfl
theorem cm : aW "made_of" := by unfold aW; rw [typeLookup_type, builtinLookup_eq_fast]; kernel_rfl
theorem eT : aW "need" := by unfold aW; rw [typeLookup_type, builtinLookup_eq_fast]; kernel_rfl
theorem c0 : aW "many" := by unfold aW; rw [typeLookup_type, builtinLookup_eq_fast]; kernel_rfl
theorem cC : aW "tree" := by unfold aW; rw [typeLookup_type, builtinLookup_eq_fast]; kernel_rfl
theorem iY : aW "parents" := by unfold aW; rw [typeLookup_type, builtinLookup_eq_fast]; kernel_rfl
theorem gU : aW "put_down" := by unfold aW; rw [typeLookup_type, builtinLookup_eq_fast]; kernel_rfl
theorem sA : aW "grow" := by unfold aW; rw [typeLookup_type, builtinLookup_eq_fast]; kernel_rfl
theorem qR : aW "merge" := by unfold aW; rw [typeLookup_type, builtinLookup_eq_fast]; kernel_rfl
theorem gE : aW "elders" := by unfold aW; rw [typeLookup_type, builtinLookup_eq_fast]; kernel_rfl
theorem iZ : aW "nearest" := by unfold aW; rw [typeLookup_type, builtinLookup_eq_fast]; kernel_rfl
theorem lR : aW "story" := by unfold aW; rw [typeLookup_type, builtinLookup_eq_fast]; kernel_rfl
noncomputable def hZ (ns : List Int) : ST :=
 (cZ (nd (aL (av bF (ae "text") (aw (.str (Str.ofString "."))))) (nd (aL (av bF (ae "text") (aw (.str (Str.ofString ".."))))) (nd (ip (om qM qM (aw (.int 1)) (aE (bS ns) (ai (ae "text") ar)) (aw (.int 12)))) tF))) (aq (bA (aw (.bool false)))
 au) au)
noncomputable def d9 (ns : List Int) : ST :=
 (bX (.name "sign") (eY ns (ae "text")) (aq (cZ (aL (av iW (ae "sign") (aw (.str (Str.ofString "abcdefghijklmnopqrstuvwxyzABCDEFGHIJKLMNOPQRSTUVWXYZ0123456789.-_"))))) (aq (bA (aw (.bool false)))
 au) au)
 au))
noncomputable def d8 (ns : List Int) : ST :=
 (bA (aw (.bool true)))
noncomputable def e7 (ns : List Int) : ST := (aq (hZ ns) (aq (d9 ns) (aq (d8 ns) au)))
theorem qd {C : Cx} (G : Gl C Hd.vw) (hz : C.held = none) (g_LONGEST_PART : GInt C "LONGEST_PART" 12) (g_SIGNS : GStr C "SIGNS" (Str.ofString "abcdefghijklmnopqrstuvwxyzABCDEFGHIJKLMNOPQRSTUVWXYZ0123456789.-_"))  : HS C (aR Hd.vw 12) 0 (bi Hd.vw 12) (e7 C.ns) :=
 (ag (aN (bM (cr (aX bQ (ac rfl rfl) bd rfl) (cr (aX bQ (ac rfl rfl) bd rfl) (cr (dc (o9 qV qV aD (co G rfl (af (ac rfl rfl) ak rfl) rfl) (o7 G.ok rfl g_LONGEST_PART rfl) rfl)) dq)))) (ag (aK bI)
 am) am)
 (ag (bc (aO rfl) (bq G.ok hz (ac rfl rfl)) (ag (aN (aX pH (ac rfl rfl) (tx G.ok rfl g_SIGNS rfl) rfl) (ag (aK bI)
 am) am)
 am) (fun _ _ => rfl))
 (ag (aK bI)
 am)))
theorem p3 {C : Cx} (G : Gl C Hd.vw) (hz : C.held = none) (g_LONGEST_PART : GInt C "LONGEST_PART" 12) (g_SIGNS : GStr C "SIGNS" (Str.ofString "abcdefghijklmnopqrstuvwxyzABCDEFGHIJKLMNOPQRSTUVWXYZ0123456789.-_"))  (hspec : ∀ vs σ Q, sp_is_part C.ns vs σ Q → vs.length = 1 ∧ e7 C.ns (aC ["text"] vs aH) σ (fin Q)) : FnAt C 0 "is_part" (sp_is_part C.ns) :=
 FnAt.mk (xs := ["text"]) G 1 12 rfl rfl rfl rfl rfl (fun ws pm code doc h => by
  obtain ⟨w0, rfl⟩ := jC h
  rfl) rfl (qd G hz g_LONGEST_PART g_SIGNS ) hspec
noncomputable def hY (ns : List Int) : ST :=
 (bf "parts" (bg fX f5 (ae "text") (ai (aw (.str (Str.ofString "/"))) ar)))
noncomputable def hX (ns : List Int) : ST :=
 (cZ (aL (av sz (aE (bS ns) (ai (ae "parts") ar)) (aw (.int 8)))) (aq (bA (aw (.bool false)))
 au) au)
noncomputable def hW (ns : List Int) : ST :=
 (bX (.name "part") (eY ns (ae "parts")) (aq (cZ (ip (aL (aE (sp_is_part ns) (ai (ae "part") ar)))) (aq (bA (aw (.bool false)))
 au) au)
 au))
noncomputable def hV (ns : List Int) : ST :=
 (bA (aw (.bool true)))
noncomputable def e6 (ns : List Int) : ST := (aq (hY ns) (aq (hX ns) (aq (hW ns) (aq (hV ns) au))))
theorem qc {C : Cx} (G : Gl C Hd.vw) (hz : C.held = none) (g_MOST_PARTS : GInt C "MOST_PARTS" 8) (h_is_part : FnAt C 0 "is_part" (sp_is_part C.ns)) : HS C (aR Hd.vw 13) 1 (bi Hd.vw 13) (e6 C.ns) :=
 (ag (aF (.inl rfl) (m5 (ac rfl rfl) (af bd ak rfl) rfl (fun _ => rfl) rfl (by decide)) (fun _ _ => rfl))
 (ag (aN (aX tO (co G rfl (af (ac rfl rfl) ak rfl) rfl) (o7 G.ok rfl g_MOST_PARTS rfl) rfl) (ag (aK bI)
 am) am)
 (ag (bc (aO rfl) (bq G.ok hz (ac rfl rfl)) (ag (aN (dc (ct (aB G h_is_part (by decide) rfl rfl (af (ac rfl rfl) ak rfl) rfl) (fun _ _ => rfl))) (ag (aK bI)
 am) am)
 am) (fun _ _ => rfl))
 (ag (aK bI)
 am))))
theorem pZ {C : Cx} (G : Gl C Hd.vw) (hz : C.held = none) (g_MOST_PARTS : GInt C "MOST_PARTS" 8) (h_is_part : FnAt C 0 "is_part" (sp_is_part C.ns)) (hspec : ∀ vs σ Q, sp_is_path C.ns vs σ Q → vs.length = 1 ∧ e6 C.ns (aC ["text"] vs aH) σ (fin Q)) : FnAt C 1 "is_path" (sp_is_path C.ns) :=
 FnAt.mk (xs := ["text"]) G 2 13 rfl rfl rfl rfl rfl (fun ws pm code doc h => by
  obtain ⟨w0, rfl⟩ := jC h
  rfl) rfl (qc G hz g_MOST_PARTS h_is_part) hspec
noncomputable def kg (ns : List Int) : ST :=
 (bf "parts" (bg fX f5 (ae "path") (ai (aw (.str (Str.ofString "/"))) ar)))
noncomputable def j9 (ns : List Int) : ST :=
 (bA (cT ["parts"] (.name "size") (dB (ai (aw (.int 1)) (ai (aE (bS ns) (ai (ae "parts") ar)) ar))) tT (bg fX kB (aw (.str (Str.ofString "/"))) (ai (sR ns (ae "parts") qJ (lO (ae "size"))) ar))))
noncomputable def iG (ns : List Int) : ST := (aq (kg ns) (aq (j9 ns) au))
theorem s7 {C : Cx} (G : Gl C Hd.vw) (hz : C.held = none)   : HS C (aR Hd.vw 14) 0 (bi Hd.vw 14) (iG C.ns) :=
 (ag (aF (.inr rfl) (m5 (ac rfl rfl) (af bd ak rfl) rfl (fun _ => rfl) rfl (by decide)) (fun _ _ => rfl))
 (ag (aK (ff (CompOk.of rfl) (gN G hz rfl (af aD (af (co G rfl (af (aT rfl rfl) ak rfl) rfl) ak rfl) rfl) rfl) (aO rfl) dI (tw bd (af (r5 G.ok (aT rfl rfl) th (lx (ac rfl rfl))) ak rfl) rfl (fun _ => rfl) rfl (by decide)) (fun _ _ => rfl)))
 am))
theorem sQ {C : Cx} (G : Gl C Hd.vw) (hz : C.held = none)   (hspec : ∀ vs σ Q, sp_above C.ns vs σ Q → vs.length = 1 ∧ iG C.ns (aC ["path"] vs aH) σ (fin Q)) : FnAt C 0 "above" (sp_above C.ns) :=
 FnAt.mk (xs := ["path"]) G 3 14 rfl rfl rfl rfl rfl (fun ws pm code doc h => by
  obtain ⟨w0, rfl⟩ := jC h
  rfl) rfl (s7 G hz  ) hspec
noncomputable def ee (ns : List Int) : ST :=
 (bA (bg fX f4 (ae "path") (ai (av cw (ae "upper") (aw (.str (Str.ofString "/")))) ar)))
noncomputable def cD (ns : List Int) : ST := (aq (ee ns) au)
theorem k9 {C : Cx} (G : Gl C Hd.vw) (hz : C.held = none)   : HS C (aR Hd.vw 15) 0 (bi Hd.vw 15) (cD C.ns) :=
 (ag (aK (qg (ac rfl rfl) (af (aM cb (ac rfl rfl) bd) ak rfl) rfl (fun _ => rfl) rfl (by decide)))
 am)
theorem kP {C : Cx} (G : Gl C Hd.vw) (hz : C.held = none)   (hspec : ∀ vs σ Q, sp_is_beneath C.ns vs σ Q → vs.length = 2 ∧ cD C.ns (aC ["path", "upper"] vs aH) σ (fin Q)) : FnAt C 0 "is_beneath" (sp_is_beneath C.ns) :=
 FnAt.mk (xs := ["path", "upper"]) G 4 15 rfl rfl rfl rfl rfl (fun ws pm code doc h => by
  obtain ⟨w0, w1, rfl⟩ := iu h
  rfl) rfl (k9 G hz  ) hspec
noncomputable def fq (ns : List Int) : ST :=
 (bf "found" fJ)
noncomputable def fp (ns : List Int) : ST :=
 (bX (.name "tree") (eY ns (b4 (ai (ae "elder") (ai (ae "one") (ai (ae "other") ar))))) (aq (bX (.name "path") (eY ns (ae "tree")) (aq (bp iq (aw (.bool true)) (ae "found") (ae "path"))
 au))
 au))
noncomputable def fo (ns : List Int) : ST :=
 (bA (nV (ae "found")))
noncomputable def c8 (ns : List Int) : ST := (aq (fq ns) (aq (fp ns) (aq (fo ns) au)))
theorem mB {C : Cx} (G : Gl C Hd.vw) (hz : C.held = none)   : HS C (aR Hd.vw 16) 0 (bi Hd.vw 16) (c8 C.ns) :=
 (ag (aF (.inl rfl) eQ (fun _ _ => rfl))
 (ag (bc (aO rfl) (bq G.ok hz (br (af (ac rfl rfl) (af (ac rfl rfl) (af (ac rfl rfl) ak rfl) rfl) rfl))) (ag (bc (aO rfl) (bq G.ok hz (ac rfl rfl)) (ag (bx eU bI (ac rfl rfl) (ac rfl rfl) (fun _ _ => rfl))
 am) (fun _ _ => rfl))
 am) (fun _ _ => rfl))
 (ag (aK (jH G hz rfl (ac rfl rfl) (fun _ => rfl) rfl))
 am)))
theorem ma {C : Cx} (G : Gl C Hd.vw) (hz : C.held = none)   (hspec : ∀ vs σ Q, sp_all_paths C.ns vs σ Q → vs.length = 3 ∧ c8 C.ns (aC ["elder", "one", "other"] vs aH) σ (fin Q)) : FnAt C 0 "all_paths" (sp_all_paths C.ns) :=
 FnAt.mk (xs := ["elder", "one", "other"]) G 5 16 rfl rfl rfl rfl rfl (fun ws pm code doc h => by
  obtain ⟨w0, w1, w2, rfl⟩ := ir h
  rfl) rfl (mB G hz  ) hspec
noncomputable def j8 (ns : List Int) : ST :=
 (bf "told" (b4 ar))
noncomputable def j7 (ns : List Int) : ST :=
 (bX (.name "path") (eY ns (aE (sp_all_paths ns) (ai (ae "elder") (ai (ae "one") (ai (ae "other") ar))))) (aq (bf "was" (bg bz cz (ae "elder") (ai (ae "path") ar)))
 (aq (bf "mine" (bg bz cz (ae "one") (ai (ae "path") ar)))
 (aq (bf "theirs" (bg bz cz (ae "other") (ai (ae "path") ar)))
 (aq (cZ (aL (av bF (ae "mine") (ae "theirs"))) (aq (cZ (aL (av f6 (ae "mine") (ae "was"))) (aq (bD (bg b8 bu (ae "told") (ai (d5 (ai (ae "path") (ai (aw (.str (Str.ofString "alike"))) ar))) ar)))
 au) au)
 au) (aq (cZ (aL (av bF (ae "theirs") (ae "was"))) (aq (bD (bg b8 bu (ae "told") (ai (d5 (ai (ae "path") (ai (aw (.str (Str.ofString "one"))) ar))) ar)))
 au) (aq (cZ (aL (av bF (ae "mine") (ae "was"))) (aq (bD (bg b8 bu (ae "told") (ai (d5 (ai (ae "path") (ai (aw (.str (Str.ofString "other"))) ar))) ar)))
 au) (aq (bD (bg b8 bu (ae "told") (ai (d5 (ai (ae "path") (ai (aw (.str (Str.ofString "clash"))) ar))) ar)))
 au))
 au))
 au))
 au)))))
noncomputable def j6 (ns : List Int) : ST :=
 (bA (ae "told"))
noncomputable def iF (ns : List Int) : ST := (aq (j8 ns) (aq (j7 ns) (aq (j6 ns) au)))
theorem s6 {C : Cx} (G : Gl C Hd.vw) (hz : C.held = none)  (h_all_paths : FnAt C 0 "all_paths" (sp_all_paths C.ns)) : HS C (aR Hd.vw 17) 1 (bi Hd.vw 17) (iF C.ns) :=
 (ag (aF (.inl rfl) (br ak) (fun _ _ => rfl))
 (ag (bc (aO rfl) (bq G.ok hz (aB G h_all_paths (by decide) rfl rfl (af (ac rfl rfl) (af (ac rfl rfl) (af (ac rfl rfl) ak rfl) rfl) rfl) rfl)) (ag (aF (.inl rfl) (bW G (ac rfl rfl) (af (ac rfl rfl) ak rfl) rfl (fun _ => rfl) rfl (by decide)) (fun _ _ => rfl))
 (ag (aF (.inl rfl) (bW G (ac rfl rfl) (af (ac rfl rfl) ak rfl) rfl (fun _ => rfl) rfl (by decide)) (fun _ _ => rfl))
 (ag (aF (.inl rfl) (bW G (ac rfl rfl) (af (ac rfl rfl) ak rfl) rfl (fun _ => rfl) rfl (by decide)) (fun _ _ => rfl))
 (ag (aN (aX bQ (ac rfl rfl) (ac rfl rfl) rfl) (ag (aN (aX uq (ac rfl rfl) (ac rfl rfl) rfl) (ag (a8 (bL (ac rfl rfl) (af (bY (af (ac rfl rfl) (af bd ak rfl) rfl)) ak rfl) rfl (fun _ => rfl) rfl (by decide)) (fun _ _ => rfl))
 am) am)
 am) (ag (aN (aX bQ (ac rfl rfl) (ac rfl rfl) rfl) (ag (a8 (bL (ac rfl rfl) (af (bY (af (ac rfl rfl) (af bd ak rfl) rfl)) ak rfl) rfl (fun _ => rfl) rfl (by decide)) (fun _ _ => rfl))
 am) (ag (aN (aX bQ (ac rfl rfl) (ac rfl rfl) rfl) (ag (a8 (bL (ac rfl rfl) (af (bY (af (ac rfl rfl) (af bd ak rfl) rfl)) ak rfl) rfl (fun _ => rfl) rfl (by decide)) (fun _ _ => rfl))
 am) (ag (a8 (bL (ac rfl rfl) (af (bY (af (ac rfl rfl) (af bd ak rfl) rfl)) ak rfl) rfl (fun _ => rfl) rfl (by decide)) (fun _ _ => rfl))
 am))
 am))
 am))
 am)))) (fun _ _ => rfl))
 (ag (aK (ac rfl rfl))
 am)))
theorem sP {C : Cx} (G : Gl C Hd.vw) (hz : C.held = none)  (h_all_paths : FnAt C 0 "all_paths" (sp_all_paths C.ns)) (hspec : ∀ vs σ Q, sp_marks C.ns vs σ Q → vs.length = 3 ∧ iF C.ns (aC ["elder", "one", "other"] vs aH) σ (fin Q)) : FnAt C 1 "marks" (sp_marks C.ns) :=
 FnAt.mk (xs := ["elder", "one", "other"]) G 6 17 rfl rfl rfl rfl rfl (fun ws pm code doc h => by
  obtain ⟨w0, w1, w2, rfl⟩ := ir h
  rfl) rfl (s6 G hz  h_all_paths) hspec
noncomputable def gm (ns : List Int) : ST :=
 (bA (cT [] (.tup ["path", "word"]) (eY ns (aE (sp_marks ns) (ai (ae "elder") (ai (ae "one") (ai (ae "other") ar))))) (aL (av bF (ae "word") (aw (.str (Str.ofString "clash"))))) (ae "path")))
noncomputable def dF (ns : List Int) : ST := (aq (gm ns) au)
theorem n5 {C : Cx} (G : Gl C Hd.vw) (hz : C.held = none)  (h_marks : FnAt C 1 "marks" (sp_marks C.ns)) : HS C (aR Hd.vw 18) 2 (bi Hd.vw 18) (dF C.ns) :=
 (ag (aK (ff (CompOk.of rfl) (bq G.ok hz (aB G h_marks (by decide) rfl rfl (af (ac rfl rfl) (af (ac rfl rfl) (af (ac rfl rfl) ak rfl) rfl) rfl) rfl)) (lw G.ok (l := [("path", _), ("word", _)]) (by decide)) (gw (aX bQ (ac rfl rfl) bd rfl)) (ac rfl rfl) (fun _ _ => rfl)))
 am)
theorem nQ {C : Cx} (G : Gl C Hd.vw) (hz : C.held = none)  (h_marks : FnAt C 1 "marks" (sp_marks C.ns)) (hspec : ∀ vs σ Q, sp_clashing C.ns vs σ Q → vs.length = 3 ∧ dF C.ns (aC ["elder", "one", "other"] vs aH) σ (fin Q)) : FnAt C 2 "clashing" (sp_clashing C.ns) :=
 FnAt.mk (xs := ["elder", "one", "other"]) G 7 18 rfl rfl rfl rfl rfl (fun ws pm code doc h => by
  obtain ⟨w0, w1, w2, rfl⟩ := ir h
  rfl) rfl (n5 G hz  h_marks) hspec
noncomputable def gg (ns : List Int) : ST :=
 (bf "away" (aE (sp_clashing ns) (ai (ae "elder") (ai (ae "one") (ai (ae "other") ar)))))
noncomputable def gf (ns : List Int) : ST :=
 (bf "found" fJ)
noncomputable def ge (ns : List Int) : ST :=
 (bX (.name "path") (eY ns (aE (sp_all_paths ns) (ai (ae "elder") (ai (ae "one") (ai (ae "other") ar))))) (aq (bf "text" (bg bz cz (ae "one") (ai (ae "path") ar)))
 (aq (cZ (aL (av bF (bg bz cz (ae "one") (ai (ae "path") ar)) (bg bz cz (ae "elder") (ai (ae "path") ar)))) (aq (bf "text" (bg bz cz (ae "other") (ai (ae "path") ar)))
 au) au)
 (aq (cZ (fg (aL (av iX (ae "path") (ae "away"))) (fg (aL (av dy (ae "text") (aw .none))) tT)) (aq (bp iq (ae "text") (ae "found") (ae "path"))
 au) au)
 au))))
noncomputable def gc (ns : List Int) : ST :=
 (bA (ae "found"))
noncomputable def dD (ns : List Int) : ST := (aq (gg ns) (aq (gf ns) (aq (ge ns) (aq (gc ns) au))))
theorem nZ {C : Cx} (G : Gl C Hd.vw) (hz : C.held = none)  (h_clashing : FnAt C 2 "clashing" (sp_clashing C.ns)) (h_all_paths : FnAt C 0 "all_paths" (sp_all_paths C.ns)) : HS C (aR Hd.vw 19) 3 (bi Hd.vw 19) (dD C.ns) :=
 (ag (aF (.inl rfl) (aB G h_clashing (by decide) rfl rfl (af (ac rfl rfl) (af (ac rfl rfl) (af (ac rfl rfl) ak rfl) rfl) rfl) rfl) (fun _ _ => rfl))
 (ag (aF (.inl rfl) eQ (fun _ _ => rfl))
 (ag (bc (aO rfl) (bq G.ok hz (aB G h_all_paths (by decide) rfl rfl (af (ac rfl rfl) (af (ac rfl rfl) (af (ac rfl rfl) ak rfl) rfl) rfl) rfl)) (ag (aF (.inl rfl) (bW G (ac rfl rfl) (af (ac rfl rfl) ak rfl) rfl (fun _ => rfl) rfl (by decide)) (fun _ _ => rfl))
 (ag (aN (aX bQ (bW G (ac rfl rfl) (af (ac rfl rfl) ak rfl) rfl (fun _ => rfl) rfl (by decide)) (bW G (ac rfl rfl) (af (ac rfl rfl) ak rfl) rfl (fun _ => rfl) rfl (by decide)) rfl) (ag (aF (.inl rfl) (bW G (ac rfl rfl) (af (ac rfl rfl) ak rfl) rfl (fun _ => rfl) rfl (by decide)) (fun _ _ => rfl))
 am) am)
 (ag (aN (bM (cv (aX pI (ac rfl rfl) (ac rfl rfl) rfl) (cv (aX lS (ac rfl rfl) ly rfl) cX))) (ag (bx eU (ac rfl rfl) (ac rfl rfl) (ac rfl rfl) (fun _ _ => rfl))
 am) am)
 am))) (fun _ _ => rfl))
 (ag (aK (ac rfl rfl))
 am))))
theorem nO {C : Cx} (G : Gl C Hd.vw) (hz : C.held = none)  (h_clashing : FnAt C 2 "clashing" (sp_clashing C.ns)) (h_all_paths : FnAt C 0 "all_paths" (sp_all_paths C.ns)) (hspec : ∀ vs σ Q, sp_standing C.ns vs σ Q → vs.length = 3 ∧ dD C.ns (aC ["elder", "one", "other"] vs aH) σ (fin Q)) : FnAt C 3 "standing" (sp_standing C.ns) :=
 FnAt.mk (xs := ["elder", "one", "other"]) G 8 19 rfl rfl rfl rfl rfl (fun ws pm code doc h => by
  obtain ⟨w0, w1, w2, rfl⟩ := ir h
  rfl) rfl (nZ G hz  h_clashing h_all_paths) hspec
noncomputable def ii (ns : List Int) : ST :=
 (bf "told" (cT [] (.name "path") (eY ns (aE (sp_clashing ns) (ai (ae "elder") (ai (ae "one") (ai (ae "other") ar))))) tT (d5 (ai (ae "path") ar))))
noncomputable def ig (ns : List Int) : ST :=
 (bf "files" (aE (sp_standing ns) (ai (ae "elder") (ai (ae "one") (ai (ae "other") ar)))))
noncomputable def ie (ns : List Int) : ST :=
 (bX (.name "path") (eY ns (ae "files")) (aq (bX (.name "folder") (eY ns (aE (sp_above ns) (ai (ae "path") ar))) (aq (cZ (aL (av gT (ae "folder") (ae "files"))) (aq (bD (bg b8 bu (ae "told") (ai (d5 (ai (ae "folder") (ai (ae "path") ar))) ar)))
 au) au)
 au))
 au))
noncomputable def ic (ns : List Int) : ST :=
 (bA (aE kz (ai (ae "told") ar)))
noncomputable def e8 (ns : List Int) : ST := (aq (ii ns) (aq (ig ns) (aq (ie ns) (aq (ic ns) au))))
theorem qe {C : Cx} (G : Gl C Hd.vw) (hz : C.held = none)  (h_clashing : FnAt C 2 "clashing" (sp_clashing C.ns)) (h_standing : FnAt C 3 "standing" (sp_standing C.ns)) (h_above : FnAt C 0 "above" (sp_above C.ns)) : HS C (aR Hd.vw 20) 4 (bi Hd.vw 20) (e8 C.ns) :=
 (ag (b6 (CompOk.of rfl) (bq G.ok hz (aB G h_clashing (by decide) rfl rfl (af (ac rfl rfl) (af (ac rfl rfl) (af (ac rfl rfl) ak rfl) rfl) rfl) rfl)) (aO rfl) dI (bY (af (ac rfl rfl) ak rfl)) (fun _ _ => rfl) rfl (b0 rfl rfl rfl))
 (ag (aF (.inl rfl) (aB G h_standing (by decide) rfl rfl (af (ac rfl rfl) (af (ac rfl rfl) (af (ac rfl rfl) ak rfl) rfl) rfl) rfl) (fun _ _ => rfl))
 (ag (bc (aO rfl) (bq G.ok hz (ac rfl rfl)) (ag (bc (aO rfl) (bq G.ok hz (aB G h_above (by decide) rfl rfl (af (ac rfl rfl) ak rfl) rfl)) (ag (aN (aX (kD G.ok) (ac rfl rfl) (ac rfl rfl) rfl) (ag (a8 (bL (ac rfl rfl) (af (bY (af (ac rfl rfl) (af (ac rfl rfl) ak rfl) rfl)) ak rfl) rfl (fun _ => rfl) rfl (by decide)) (fun _ _ => rfl))
 am) am)
 am) (fun _ _ => rfl))
 am) (fun _ _ => rfl))
 (ag (aK (n9 G hz rfl (af (ac rfl rfl) ak rfl) rfl))
 am))))
theorem p4 {C : Cx} (G : Gl C Hd.vw) (hz : C.held = none)  (h_clashing : FnAt C 2 "clashing" (sp_clashing C.ns)) (h_standing : FnAt C 3 "standing" (sp_standing C.ns)) (h_above : FnAt C 0 "above" (sp_above C.ns)) (hspec : ∀ vs σ Q, sp_clashes C.ns vs σ Q → vs.length = 3 ∧ e8 C.ns (aC ["elder", "one", "other"] vs aH) σ (fin Q)) : FnAt C 4 "clashes" (sp_clashes C.ns) :=
 FnAt.mk (xs := ["elder", "one", "other"]) G 9 20 rfl rfl rfl rfl rfl (fun ws pm code doc h => by
  obtain ⟨w0, w1, w2, rfl⟩ := ir h
  rfl) rfl (qe G hz  h_clashing h_standing h_above) hspec
noncomputable def jq (ns : List Int) : ST :=
 (bf "known" fJ)
noncomputable def jp (ns : List Int) : ST :=
 (bX (.name "clash") (eY ns (aE (sp_clashes ns) (ai (ae "elder") (ai (ae "one") (ai (ae "other") ar))))) (aq (bX (.name "path") (eY ns (ae "clash")) (aq (bp iq (aw (.bool true)) (ae "known") (ae "path"))
 au))
 au))
noncomputable def jo (ns : List Int) : ST :=
 (bX (.name "path") (eY ns (ae "picks")) (aq (cZ (aL (av dY (ae "path") (ae "known"))) (aq da
 au) au)
 au))
noncomputable def jm (ns : List Int) : ST :=
 (bX (.name "path") (eY ns (aE (sp_clashing ns) (ai (ae "elder") (ai (ae "one") (ai (ae "other") ar))))) (aq (cZ (aL (av dY (ae "path") (ae "picks"))) (aq da
 au) au)
 au))
noncomputable def jl (ns : List Int) : ST :=
 (bf "files" (aE (sp_standing ns) (ai (ae "elder") (ai (ae "one") (ai (ae "other") ar)))))
noncomputable def jk (ns : List Int) : ST :=
 (bX (.name "path") (eY ns (ae "picks")) (aq (cZ (aL (av dy (av dv (ae "picks") (ae "path")) (aw .none))) (aq (bp iq (av dv (ae "picks") (ae "path")) (ae "files") (ae "path"))
 au) (aq (cZ (aL (av gT (ae "path") (ae "files"))) (aq (bD (bg bz jJ (ae "files") (ai (ae "path") ar)))
 au) au)
 au))
 au))
noncomputable def fN (ns : List Int) : ST :=
 (bX (.name "path") (eY ns (ae "files")) (aq (bX (.name "folder") (eY ns (aE (sp_above ns) (ai (ae "path") ar))) (aq (cZ (aL (av gT (ae "folder") (ae "files"))) (aq da
 au) au)
 au))
 au))
noncomputable def fM (ns : List Int) : ST :=
 (bA (ae "files"))
noncomputable def gk (ns : List Int) : ST := (aq (jq ns) (aq (jp ns) (aq (jo ns) (aq (jm ns) (aq (jl ns) (aq (jk ns) (aq (fN ns) (aq (fM ns) au))))))))
theorem rT {C : Cx} (G : Gl C Hd.vw) (hz : C.held = none)  (h_clashes : FnAt C 4 "clashes" (sp_clashes C.ns)) (h_clashing : FnAt C 2 "clashing" (sp_clashing C.ns)) (h_standing : FnAt C 3 "standing" (sp_standing C.ns)) (h_above : FnAt C 0 "above" (sp_above C.ns)) : HS C (aR Hd.vw 21) 5 (bi Hd.vw 21) (gk C.ns) :=
 (ag (aF (.inl rfl) eQ (fun _ _ => rfl))
 (ag (bc (aO rfl) (bq G.ok hz (aB G h_clashes (by decide) rfl rfl (af (ac rfl rfl) (af (ac rfl rfl) (af (ac rfl rfl) ak rfl) rfl) rfl) rfl)) (ag (bc (aO rfl) (bq G.ok hz (ac rfl rfl)) (ag (bx eU bI (ac rfl rfl) (ac rfl rfl) (fun _ _ => rfl))
 am) (fun _ _ => rfl))
 am) (fun _ _ => rfl))
 (ag (bc (aO rfl) (bq G.ok hz (ac rfl rfl)) (ag (aN (aX (gF G.ok) (ac rfl rfl) (ac rfl rfl) rfl) (ag b7
 am) am)
 am) (fun _ _ => rfl))
 (ag (bc (aO rfl) (bq G.ok hz (aB G h_clashing (by decide) rfl rfl (af (ac rfl rfl) (af (ac rfl rfl) (af (ac rfl rfl) ak rfl) rfl) rfl) rfl)) (ag (aN (aX (gF G.ok) (ac rfl rfl) (ac rfl rfl) rfl) (ag b7
 am) am)
 am) (fun _ _ => rfl))
 (ag (aF (.inl rfl) (aB G h_standing (by decide) rfl rfl (af (ac rfl rfl) (af (ac rfl rfl) (af (ac rfl rfl) ak rfl) rfl) rfl) rfl) (fun _ _ => rfl))
 (ag (bc (aO rfl) (bq G.ok hz (ac rfl rfl)) (ag (aN (aX lS (m6 (ac rfl rfl) (ac rfl rfl) rfl) ly rfl) (ag (bx eU (m6 (ac rfl rfl) (ac rfl rfl) rfl) (ac rfl rfl) (ac rfl rfl) (fun _ _ => rfl))
 am) (ag (aN (aX (kD G.ok) (ac rfl rfl) (ac rfl rfl) rfl) (ag (a8 (o5 (ac rfl rfl) (af (ac rfl rfl) ak rfl) rfl (fun _ => rfl) rfl (by decide)) (fun _ _ => rfl))
 am) am)
 am))
 am) (fun _ _ => rfl))
 (ag (bc (aO rfl) (bq G.ok hz (ac rfl rfl)) (ag (bc (aO rfl) (bq G.ok hz (aB G h_above (by decide) rfl rfl (af (ac rfl rfl) ak rfl) rfl)) (ag (aN (aX (kD G.ok) (ac rfl rfl) (ac rfl rfl) rfl) (ag b7
 am) am)
 am) (fun _ _ => rfl))
 am) (fun _ _ => rfl))
 (ag (aK (ac rfl rfl))
 am))))))))
theorem rA {C : Cx} (G : Gl C Hd.vw) (hz : C.held = none)  (h_clashes : FnAt C 4 "clashes" (sp_clashes C.ns)) (h_clashing : FnAt C 2 "clashing" (sp_clashing C.ns)) (h_standing : FnAt C 3 "standing" (sp_standing C.ns)) (h_above : FnAt C 0 "above" (sp_above C.ns)) (hspec : ∀ vs σ Q, sp_joined C.ns vs σ Q → vs.length = 4 ∧ gk C.ns (aC ["elder", "one", "other", "picks"] vs aH) σ (fin Q)) : FnAt C 5 "joined" (sp_joined C.ns) :=
 FnAt.mk (xs := ["elder", "one", "other", "picks"]) G 10 21 rfl rfl rfl rfl rfl (fun ws pm code doc h => by
  obtain ⟨w0, w1, w2, w3, rfl⟩ := uD h
  rfl) rfl (rT G hz  h_clashes h_clashing h_standing h_above) hspec
noncomputable def mX (ns : List Int) : ST :=
 (bf "path" (av (aG ns) (ae "deed") (aw (.int 1))))
noncomputable def mW (ns : List Int) : ST :=
 (cZ (ip (aL (aE (sp_is_path ns) (ai (ae "path") ar)))) (aq da
 au) au)
noncomputable def mV (ns : List Int) : ST :=
 (bf "fresh" (aE eR (ai (ae "tree") ar)))
noncomputable def mU (ns : List Int) : ST :=
 (cZ (aL (av bF (av (aG ns) (ae "deed") (aw (.int 0))) (aw (.str (Str.ofString "cut"))))) (aq (cZ (aL (av dY (ae "path") (ae "fresh"))) (aq da
 au) au)
 (aq (bD (bg bz jJ (ae "fresh") (ai (ae "path") ar)))
 (aq (bA (ae "fresh"))
 au))) au)
noncomputable def mT (ns : List Int) : ST :=
 (bX (.name "other") (eY ns (ae "tree")) (aq (cZ (nd (aL (aE (sp_is_beneath ns) (ai (ae "path") (ai (ae "other") ar)))) (nd (aL (aE (sp_is_beneath ns) (ai (ae "other") (ai (ae "path") ar)))) tF)) (aq da
 au) au)
 au))
noncomputable def mS (ns : List Int) : ST :=
 (bp iq (av (aG ns) (ae "deed") (aw (.int 2))) (ae "fresh") (ae "path"))
noncomputable def mR (ns : List Int) : ST :=
 (bA (ae "fresh"))
noncomputable def lv (ns : List Int) : ST := (aq (mX ns) (aq (mW ns) (aq (mV ns) (aq (mU ns) (aq (mT ns) (aq (mS ns) (aq (mR ns) au)))))))
theorem vf {C : Cx} (G : Gl C Hd.vw) (hz : C.held = none)  (h_is_path : FnAt C 1 "is_path" (sp_is_path C.ns)) (h_is_beneath : FnAt C 0 "is_beneath" (sp_is_beneath C.ns)) : HS C (aR Hd.vw 22) 2 (bi Hd.vw 22) (lv C.ns) :=
 (ag (aF (.inl rfl) (aP G (ac rfl rfl) aD rfl) (fun _ _ => rfl))
 (ag (aN (dc (ct (aB G h_is_path (by decide) rfl rfl (af (ac rfl rfl) ak rfl) rfl) (fun _ _ => rfl))) (ag b7
 am) am)
 (ag (aF (.inl rfl) (jw G rfl (af (ac rfl rfl) ak rfl) rfl) (fun _ _ => rfl))
 (ag (aN (aX bQ (aP G (ac rfl rfl) aD rfl) bd rfl) (ag (aN (aX (gF G.ok) (ac rfl rfl) (ac rfl rfl) rfl) (ag b7
 am) am)
 (ag (a8 (o5 (ac rfl rfl) (af (ac rfl rfl) ak rfl) rfl (fun _ => rfl) rfl (by decide)) (fun _ _ => rfl))
 (ag (aK (ac rfl rfl))
 am))) am)
 (ag (bc (aO rfl) (bq G.ok hz (ac rfl rfl)) (ag (aN (bM (cr (ct (aB G h_is_beneath (by decide) rfl rfl (af (ac rfl rfl) (af (ac rfl rfl) ak rfl) rfl) rfl) (fun _ _ => rfl)) (cr (ct (aB G h_is_beneath (by decide) rfl rfl (af (ac rfl rfl) (af (ac rfl rfl) ak rfl) rfl) rfl) (fun _ _ => rfl)) dq))) (ag b7
 am) am)
 am) (fun _ _ => rfl))
 (ag (bx eU (aP G (ac rfl rfl) aD rfl) (ac rfl rfl) (ac rfl rfl) (fun _ _ => rfl))
 (ag (aK (ac rfl rfl))
 am)))))))
theorem uO {C : Cx} (G : Gl C Hd.vw) (hz : C.held = none)  (h_is_path : FnAt C 1 "is_path" (sp_is_path C.ns)) (h_is_beneath : FnAt C 0 "is_beneath" (sp_is_beneath C.ns)) (hspec : ∀ vs σ Q, sp_done C.ns vs σ Q → vs.length = 2 ∧ lv C.ns (aC ["tree", "deed"] vs aH) σ (fin Q)) : FnAt C 2 "done" (sp_done C.ns) :=
 FnAt.mk (xs := ["tree", "deed"]) G 11 22 rfl rfl rfl rfl rfl (fun ws pm code doc h => by
  obtain ⟨w0, w1, rfl⟩ := iu h
  rfl) rfl (vf G hz  h_is_path h_is_beneath) hspec
noncomputable def ik (ns : List Int) : ST :=
 (bf "fresh" (aE eR (ai (ae "tree") ar)))
noncomputable def ij (ns : List Int) : ST :=
 (bX (.name "deed") (eY ns (ae "deeds")) (aq (bf "fresh" (aE (sp_done ns) (ai (ae "fresh") (ai (ae "deed") ar))))
 au))
noncomputable def eg (ns : List Int) : ST :=
 (bA (ae "fresh"))
noncomputable def e9 (ns : List Int) : ST := (aq (ik ns) (aq (ij ns) (aq (eg ns) au)))
theorem qf {C : Cx} (G : Gl C Hd.vw) (hz : C.held = none)  (h_done : FnAt C 2 "done" (sp_done C.ns)) : HS C (aR Hd.vw 23) 3 (bi Hd.vw 23) (e9 C.ns) :=
 (ag (aF (.inl rfl) (jw G rfl (af (ac rfl rfl) ak rfl) rfl) (fun _ _ => rfl))
 (ag (bc (aO rfl) (bq G.ok hz (ac rfl rfl)) (ag (aF (.inl rfl) (aB G h_done (by decide) rfl rfl (af (ac rfl rfl) (af (ac rfl rfl) ak rfl) rfl) rfl) (fun _ _ => rfl))
 am) (fun _ _ => rfl))
 (ag (aK (ac rfl rfl))
 am)))
theorem p5 {C : Cx} (G : Gl C Hd.vw) (hz : C.held = none)  (h_done : FnAt C 2 "done" (sp_done C.ns)) (hspec : ∀ vs σ Q, sp_changed C.ns vs σ Q → vs.length = 2 ∧ e9 C.ns (aC ["tree", "deeds"] vs aH) σ (fin Q)) : FnAt C 3 "changed" (sp_changed C.ns) :=
 FnAt.mk (xs := ["tree", "deeds"]) G 12 23 rfl rfl rfl rfl rfl (fun ws pm code doc h => by
  obtain ⟨w0, w1, rfl⟩ := iu h
  rfl) rfl (qf G hz  h_done) hspec
noncomputable def gv (ns : List Int) : ST :=
 (oy "trees" (b4 (ai fJ ar)) (ae "self"))
noncomputable def gu (ns : List Int) : ST :=
 (oy "made_of" (b4 (ai (d5 ar) ar)) (ae "self"))
noncomputable def dH (ns : List Int) : ST := (aq (gv ns) (aq (gu ns) au))
theorem n7 {C : Cx} (G : Gl C Hd.vw) (hz : C.held = none)  {bk N : Addr} {mN : Str → Option Value} (B : Bk C bk N mN)  : HS C (Hd.fS (Hd.cB Hd.TB 29) 0) 0 (Hd.fB (Hd.cB Hd.TB 29) 0) (dH C.ns) :=
 (ag (mZ B bJ (B.look "trees" (by decide)) (br (af eQ ak rfl)) (ac rfl rfl) (fun _ _ => rfl))
 (ag (mZ B cm (B.look "made_of" (by decide)) (br (af (bY ak) ak rfl)) (ac rfl rfl) (fun _ _ => rfl))
 am))
theorem nS {C : Cx} (G : Gl C Hd.vw) (hz : C.held = none)  {bk N : Addr} {mN : Str → Option Value} (B : Bk C bk N mN) {P : Params} (KX : (Hd.kk P).In C.hB) (hN : N = Hd.bkN)  (hspec : ∀ vs σ Q, sp___init__ C.ns vs σ Q → vs.length = 1 ∧ dH C.ns (aC ["self"] vs aH) σ (fin Q)) : MtAt C mN 0 "__init__" (sp___init__ C.ns) :=
 MtAt.mk (xs := ["self"]) G.ok B KX (Hd.m___init__ P) (by subst hN; exact Hd.mn___init__ P) rfl rfl rfl rfl rfl (fun ws h => by
  obtain ⟨w0, rfl⟩ := jC h
  rfl) rfl (n7 G hz  B ) hspec
noncomputable def mM (ns : List Int) : ST :=
 (cZ (nd (aL (aE b9 (ai (ae "number") (ai (aw (.ty "bool")) ar)))) (nd (ip (aL (aE b9 (ai (ae "number") (ai (aw (.ty "int")) ar))))) (nd (ip (om qM lQ (aw (.int 0)) (ae "number") (aE (bS ns) (ai (cj "trees" (ae "self")) ar)))) tF))) (aq da
 au) au)
noncomputable def lr (ns : List Int) : ST := (aq (mM ns) au)
theorem u9 {C : Cx} (G : Gl C Hd.vw) (hz : C.held = none)  {bk N : Addr} {mN : Str → Option Value} (B : Bk C bk N mN)  : HS C (Hd.fS (Hd.cB Hd.TB 29) 1) 0 (Hd.fB (Hd.cB Hd.TB 29) 1) (lr C.ns) :=
 (ag (aN (bM (cr (ct (jv G rfl (af (ac rfl rfl) (af (m7 G rfl) ak rfl) rfl) rfl) (fun _ _ => rfl)) (cr (dc (ct (jv G rfl (af (ac rfl rfl) (af (o8 G rfl) ak rfl) rfl) rfl) (fun _ _ => rfl))) (cr (dc (o9 qV oE aD (ac rfl rfl) (co G rfl (af (bB B bJ (B.look "trees" (by decide)) (ac rfl rfl) (fun _ => rfl)) ak rfl) rfl) rfl)) dq)))) (ag b7
 am) am)
 am)
theorem uL {C : Cx} (G : Gl C Hd.vw) (hz : C.held = none)  {bk N : Addr} {mN : Str → Option Value} (B : Bk C bk N mN) {P : Params} (KX : (Hd.kk P).In C.hB) (hN : N = Hd.bkN)  (hspec : ∀ vs σ Q, sp_need C.ns vs σ Q → vs.length = 2 ∧ lr C.ns (aC ["self", "number"] vs aH) σ (fin Q)) : MtAt C mN 0 "need" (sp_need C.ns) :=
 MtAt.mk (xs := ["self", "number"]) G.ok B KX (Hd.m_need P) (by subst hN; exact Hd.mn_need P) rfl rfl rfl rfl rfl (fun ws h => by
  obtain ⟨w0, w1, rfl⟩ := iu h
  rfl) rfl (u9 G hz  B ) hspec
noncomputable def mO (ns : List Int) : ST :=
 (bA (aE (bS ns) (ai (cj "trees" (ae "self")) ar)))
noncomputable def ls (ns : List Int) : ST := (aq (mO ns) au)
theorem vd {C : Cx} (G : Gl C Hd.vw) (hz : C.held = none)  {bk N : Addr} {mN : Str → Option Value} (B : Bk C bk N mN)  : HS C (Hd.fS (Hd.cB Hd.TB 29) 2) 0 (Hd.fB (Hd.cB Hd.TB 29) 2) (ls C.ns) :=
 (ag (aK (co G rfl (af (bB B bJ (B.look "trees" (by decide)) (ac rfl rfl) (fun _ => rfl)) ak rfl) rfl))
 am)
theorem uM {C : Cx} (G : Gl C Hd.vw) (hz : C.held = none)  {bk N : Addr} {mN : Str → Option Value} (B : Bk C bk N mN) {P : Params} (KX : (Hd.kk P).In C.hB) (hN : N = Hd.bkN)  (hspec : ∀ vs σ Q, sp_many C.ns vs σ Q → vs.length = 1 ∧ ls C.ns (aC ["self"] vs aH) σ (fin Q)) : MtAt C mN 0 "many" (sp_many C.ns) :=
 MtAt.mk (xs := ["self"]) G.ok B KX (Hd.m_many P) (by subst hN; exact Hd.mn_many P) rfl rfl rfl rfl rfl (fun ws h => by
  obtain ⟨w0, rfl⟩ := jC h
  rfl) rfl (vd G hz  B ) hspec
noncomputable def mK (ns : List Int) : ST :=
 (bD (aU "need" (sp_need ns) (ae "self") (ai (ae "number") ar)))
noncomputable def mJ (ns : List Int) : ST :=
 (bA (aE eR (ai (av (aG ns) (cj "trees" (ae "self")) (ae "number")) ar)))
noncomputable def lq (ns : List Int) : ST := (aq (mK ns) (aq (mJ ns) au))
theorem u8 {C : Cx} (G : Gl C Hd.vw) (hz : C.held = none)  {bk N : Addr} {mN : Str → Option Value} (B : Bk C bk N mN) (h_need : MtAt C mN 0 "need" (sp_need C.ns)) : HS C (Hd.fS (Hd.cB Hd.TB 29) 3) 1 (Hd.fB (Hd.cB Hd.TB 29) 3) (lq C.ns) :=
 (ag (a8 (aI G.ok B h_need (by decide) eT (ac rfl rfl) (af (ac rfl rfl) ak rfl) rfl (fun _ => rfl) rfl (by decide)) (fun _ _ => rfl))
 (ag (aK (jw G rfl (af (aP G (bB B bJ (B.look "trees" (by decide)) (ac rfl rfl) (fun _ => rfl)) (ac rfl rfl) rfl) ak rfl) rfl))
 am))
theorem uJ {C : Cx} (G : Gl C Hd.vw) (hz : C.held = none)  {bk N : Addr} {mN : Str → Option Value} (B : Bk C bk N mN) {P : Params} (KX : (Hd.kk P).In C.hB) (hN : N = Hd.bkN) (h_need : MtAt C mN 0 "need" (sp_need C.ns)) (hspec : ∀ vs σ Q, sp_tree C.ns vs σ Q → vs.length = 2 ∧ lq C.ns (aC ["self", "number"] vs aH) σ (fin Q)) : MtAt C mN 1 "tree" (sp_tree C.ns) :=
 MtAt.mk (xs := ["self", "number"]) G.ok B KX (Hd.m_tree P) (by subst hN; exact Hd.mn_tree P) rfl rfl rfl rfl rfl (fun ws h => by
  obtain ⟨w0, w1, rfl⟩ := iu h
  rfl) rfl (u8 G hz  B h_need) hspec
noncomputable def hG (ns : List Int) : ST :=
 (bD (aU "need" (sp_need ns) (ae "self") (ai (ae "number") ar)))
noncomputable def gZ (ns : List Int) : ST :=
 (bA (av (aG ns) (cj "made_of" (ae "self")) (ae "number")))
noncomputable def e0 (ns : List Int) : ST := (aq (hG ns) (aq (gZ ns) au))
theorem p8 {C : Cx} (G : Gl C Hd.vw) (hz : C.held = none)  {bk N : Addr} {mN : Str → Option Value} (B : Bk C bk N mN) (h_need : MtAt C mN 0 "need" (sp_need C.ns)) : HS C (Hd.fS (Hd.cB Hd.TB 29) 4) 1 (Hd.fB (Hd.cB Hd.TB 29) 4) (e0 C.ns) :=
 (ag (a8 (aI G.ok B h_need (by decide) eT (ac rfl rfl) (af (ac rfl rfl) ak rfl) rfl (fun _ => rfl) rfl (by decide)) (fun _ _ => rfl))
 (ag (aK (aP G (bB B cm (B.look "made_of" (by decide)) (ac rfl rfl) (fun _ => rfl)) (ac rfl rfl) rfl))
 am))
theorem pX {C : Cx} (G : Gl C Hd.vw) (hz : C.held = none)  {bk N : Addr} {mN : Str → Option Value} (B : Bk C bk N mN) {P : Params} (KX : (Hd.kk P).In C.hB) (hN : N = Hd.bkN) (h_need : MtAt C mN 0 "need" (sp_need C.ns)) (hspec : ∀ vs σ Q, sp_parents C.ns vs σ Q → vs.length = 2 ∧ e0 C.ns (aC ["self", "number"] vs aH) σ (fin Q)) : MtAt C mN 1 "parents" (sp_parents C.ns) :=
 MtAt.mk (xs := ["self", "number"]) G.ok B KX (Hd.m_parents P) (by subst hN; exact Hd.mn_parents P) rfl rfl rfl rfl rfl (fun ws h => by
  obtain ⟨w0, w1, rfl⟩ := iu h
  rfl) rfl (p8 G hz  B h_need) hspec
noncomputable def gj (ns : List Int) : ST :=
 (bD (bg b8 bu (cj "trees" (ae "self")) (ai (ae "tree") ar)))
noncomputable def gi (ns : List Int) : ST :=
 (bD (bg b8 bu (cj "made_of" (ae "self")) (ai (ae "parents") ar)))
noncomputable def gh (ns : List Int) : ST :=
 (bA (av oz (aE (bS ns) (ai (cj "trees" (ae "self")) ar)) (aw (.int 1))))
noncomputable def dE (ns : List Int) : ST := (aq (gj ns) (aq (gi ns) (aq (gh ns) au)))
theorem n4 {C : Cx} (G : Gl C Hd.vw) (hz : C.held = none)  {bk N : Addr} {mN : Str → Option Value} (B : Bk C bk N mN)  : HS C (Hd.fS (Hd.cB Hd.TB 29) 5) 0 (Hd.fB (Hd.cB Hd.TB 29) 5) (dE C.ns) :=
 (ag (a8 (bL (bB B bJ (B.look "trees" (by decide)) (ac rfl rfl) (fun _ => rfl)) (af (ac rfl rfl) ak rfl) rfl (fun _ => rfl) rfl (by decide)) (fun _ _ => rfl))
 (ag (a8 (bL (bB B cm (B.look "made_of" (by decide)) (ac rfl rfl) (fun _ => rfl)) (af (ac rfl rfl) ak rfl) rfl (fun _ => rfl) rfl (by decide)) (fun _ _ => rfl))
 (ag (aK (aM qS (co G rfl (af (bB B bJ (B.look "trees" (by decide)) (ac rfl rfl) (fun _ => rfl)) ak rfl) rfl) aD))
 am)))
theorem nP {C : Cx} (G : Gl C Hd.vw) (hz : C.held = none)  {bk N : Addr} {mN : Str → Option Value} (B : Bk C bk N mN) {P : Params} (KX : (Hd.kk P).In C.hB) (hN : N = Hd.bkN)  (hspec : ∀ vs σ Q, sp_put_down C.ns vs σ Q → vs.length = 3 ∧ dE C.ns (aC ["self", "tree", "parents"] vs aH) σ (fin Q)) : MtAt C mN 0 "put_down" (sp_put_down C.ns) :=
 MtAt.mk (xs := ["self", "tree", "parents"]) G.ok B KX (Hd.m_put_down P) (by subst hN; exact Hd.mn_put_down P) rfl rfl rfl rfl rfl (fun ws h => by
  obtain ⟨w0, w1, w2, rfl⟩ := ir h
  rfl) rfl (n4 G hz  B ) hspec
noncomputable def mQ (ns : List Int) : ST :=
 (bD (aU "need" (sp_need ns) (ae "self") (ai (ae "parent") ar)))
noncomputable def mP (ns : List Int) : ST :=
 (bA (aU "put_down" (sp_put_down ns) (ae "self") (ai (aE (sp_changed ns) (ai (av (aG ns) (cj "trees" (ae "self")) (ae "parent")) (ai (ae "deeds") ar))) (ai (d5 (ai (ae "parent") ar)) ar))))
noncomputable def lu (ns : List Int) : ST := (aq (mQ ns) (aq (mP ns) au))
theorem ve {C : Cx} (G : Gl C Hd.vw) (hz : C.held = none)  {bk N : Addr} {mN : Str → Option Value} (B : Bk C bk N mN) (h_need : MtAt C mN 0 "need" (sp_need C.ns)) (h_changed : FnAt C 3 "changed" (sp_changed C.ns)) (h_put_down : MtAt C mN 0 "put_down" (sp_put_down C.ns)) : HS C (Hd.fS (Hd.cB Hd.TB 29) 6) 4 (Hd.fB (Hd.cB Hd.TB 29) 6) (lu C.ns) :=
 (ag (a8 (aI G.ok B h_need (by decide) eT (ac rfl rfl) (af (ac rfl rfl) ak rfl) rfl (fun _ => rfl) rfl (by decide)) (fun _ _ => rfl))
 (ag (aK (aI G.ok B h_put_down (by decide) gU (ac rfl rfl) (af (aB G h_changed (by decide) rfl rfl (af (aP G (bB B bJ (B.look "trees" (by decide)) (ac rfl rfl) (fun _ => rfl)) (ac rfl rfl) rfl) (af (ac rfl rfl) ak rfl) rfl) rfl) (af (bY (af (ac rfl rfl) ak rfl)) ak rfl) rfl) rfl (fun _ => rfl) rfl (by decide)))
 am))
theorem uN {C : Cx} (G : Gl C Hd.vw) (hz : C.held = none)  {bk N : Addr} {mN : Str → Option Value} (B : Bk C bk N mN) {P : Params} (KX : (Hd.kk P).In C.hB) (hN : N = Hd.bkN) (h_need : MtAt C mN 0 "need" (sp_need C.ns)) (h_changed : FnAt C 3 "changed" (sp_changed C.ns)) (h_put_down : MtAt C mN 0 "put_down" (sp_put_down C.ns)) (hspec : ∀ vs σ Q, sp_grow C.ns vs σ Q → vs.length = 3 ∧ lu C.ns (aC ["self", "parent", "deeds"] vs aH) σ (fin Q)) : MtAt C mN 4 "grow" (sp_grow C.ns) :=
 MtAt.mk (xs := ["self", "parent", "deeds"]) G.ok B KX (Hd.m_grow P) (by subst hN; exact Hd.mn_grow P) rfl rfl rfl rfl rfl (fun ws h => by
  obtain ⟨w0, w1, w2, rfl⟩ := ir h
  rfl) rfl (ve G hz  B h_need h_changed h_put_down) hspec
noncomputable def j5 (ns : List Int) : ST :=
 (bD (aU "need" (sp_need ns) (ae "self") (ai (ae "one") ar)))
noncomputable def j4 (ns : List Int) : ST :=
 (bD (aU "need" (sp_need ns) (ae "self") (ai (ae "other") ar)))
noncomputable def j3 (ns : List Int) : ST :=
 (cZ (aL (av bF (ae "one") (ae "other"))) (aq da
 au) au)
noncomputable def j2 (ns : List Int) : ST :=
 (bf "elder" (aU "nearest" (sp_nearest ns) (ae "self") (ai (ae "one") (ai (ae "other") ar))))
noncomputable def j1 (ns : List Int) : ST :=
 (bf "tree" (aE (sp_joined ns) (ai (av (aG ns) (cj "trees" (ae "self")) (ae "elder")) (ai (av (aG ns) (cj "trees" (ae "self")) (ae "one")) (ai (av (aG ns) (cj "trees" (ae "self")) (ae "other")) (ai (ae "picks") ar))))))
noncomputable def j0 (ns : List Int) : ST :=
 (bA (aU "put_down" (sp_put_down ns) (ae "self") (ai (ae "tree") (ai (d5 (ai (aE ot (ai (ae "one") (ai (ae "other") ar))) (ai (aE ov (ai (ae "one") (ai (ae "other") ar))) ar))) ar))))
noncomputable def iE (ns : List Int) : ST := (aq (j5 ns) (aq (j4 ns) (aq (j3 ns) (aq (j2 ns) (aq (j1 ns) (aq (j0 ns) au))))))
theorem s5 {C : Cx} (G : Gl C Hd.vw) (hz : C.held = none)  {bk N : Addr} {mN : Str → Option Value} (B : Bk C bk N mN) (h_need : MtAt C mN 0 "need" (sp_need C.ns)) (h_nearest : MtAt C mN 2 "nearest" (sp_nearest C.ns)) (h_joined : FnAt C 5 "joined" (sp_joined C.ns)) (h_put_down : MtAt C mN 0 "put_down" (sp_put_down C.ns)) : HS C (Hd.fS (Hd.cB Hd.TB 29) 7) 6 (Hd.fB (Hd.cB Hd.TB 29) 7) (iE C.ns) :=
 (ag (a8 (aI G.ok B h_need (by decide) eT (ac rfl rfl) (af (ac rfl rfl) ak rfl) rfl (fun _ => rfl) rfl (by decide)) (fun _ _ => rfl))
 (ag (a8 (aI G.ok B h_need (by decide) eT (ac rfl rfl) (af (ac rfl rfl) ak rfl) rfl (fun _ => rfl) rfl (by decide)) (fun _ _ => rfl))
 (ag (aN (aX bQ (ac rfl rfl) (ac rfl rfl) rfl) (ag b7
 am) am)
 (ag (aF (.inl rfl) (aI G.ok B h_nearest (by decide) iZ (ac rfl rfl) (af (ac rfl rfl) (af (ac rfl rfl) ak rfl) rfl) rfl (fun _ => rfl) rfl (by decide)) (fun _ _ => rfl))
 (ag (aF (.inl rfl) (aB G h_joined (by decide) rfl rfl (af (aP G (bB B bJ (B.look "trees" (by decide)) (ac rfl rfl) (fun _ => rfl)) (ac rfl rfl) rfl) (af (aP G (bB B bJ (B.look "trees" (by decide)) (ac rfl rfl) (fun _ => rfl)) (ac rfl rfl) rfl) (af (aP G (bB B bJ (B.look "trees" (by decide)) (ac rfl rfl) (fun _ => rfl)) (ac rfl rfl) rfl) (af (ac rfl rfl) ak rfl) rfl) rfl) rfl) rfl) (fun _ _ => rfl))
 (ag (aK (aI G.ok B h_put_down (by decide) gU (ac rfl rfl) (af (ac rfl rfl) (af (bY (af (tn G hz rfl (af (ac rfl rfl) (af (ac rfl rfl) ak rfl) rfl) rfl) (af (tt G hz rfl (af (ac rfl rfl) (af (ac rfl rfl) ak rfl) rfl) rfl) ak rfl) rfl)) ak rfl) rfl) rfl (fun _ => rfl) rfl (by decide)))
 am))))))
theorem sO {C : Cx} (G : Gl C Hd.vw) (hz : C.held = none)  {bk N : Addr} {mN : Str → Option Value} (B : Bk C bk N mN) {P : Params} (KX : (Hd.kk P).In C.hB) (hN : N = Hd.bkN) (h_need : MtAt C mN 0 "need" (sp_need C.ns)) (h_nearest : MtAt C mN 2 "nearest" (sp_nearest C.ns)) (h_joined : FnAt C 5 "joined" (sp_joined C.ns)) (h_put_down : MtAt C mN 0 "put_down" (sp_put_down C.ns)) (hspec : ∀ vs σ Q, sp_merge C.ns vs σ Q → vs.length = 4 ∧ iE C.ns (aC ["self", "one", "other", "picks"] vs aH) σ (fin Q)) : MtAt C mN 6 "merge" (sp_merge C.ns) :=
 MtAt.mk (xs := ["self", "one", "other", "picks"]) G.ok B KX (Hd.m_merge P) (by subst hN; exact Hd.mn_merge P) rfl rfl rfl rfl rfl (fun ws h => by
  obtain ⟨w0, w1, w2, w3, rfl⟩ := uD h
  rfl) rfl (s5 G hz  B h_need h_nearest h_joined h_put_down) hspec
noncomputable def jr (ns : List Int) : ST :=
 (bD (aU "need" (sp_need ns) (ae "self") (ai (ae "number") ar)))
noncomputable def fR (ns : List Int) : ST :=
 (bf "found" (kZ (ae "number") (aw (.bool true))))
noncomputable def fQ (ns : List Int) : ST :=
 (bX (.name "k") (rt (ai (ae "number") (ai (wz oA (aw (.int 1))) (ai (wz oA (aw (.int 1))) ar)))) (aq (cZ (aL (av qO (ae "k") (ae "found"))) (aq (bX (.name "parent") (eY ns (av (aG ns) (cj "made_of" (ae "self")) (ae "k"))) (aq (bp t7 (aw (.bool true)) (ae "found") (ae "parent"))
 au))
 au) au)
 au))
noncomputable def fO (ns : List Int) : ST :=
 (bA (kY (ae "found")))
noncomputable def gl (ns : List Int) : ST := (aq (jr ns) (aq (fR ns) (aq (fQ ns) (aq (fO ns) au))))
theorem rU {C : Cx} (G : Gl C Hd.vw) (hz : C.held = none)  {bk N : Addr} {mN : Str → Option Value} (B : Bk C bk N mN) (h_need : MtAt C mN 0 "need" (sp_need C.ns)) : HS C (Hd.fS (Hd.cB Hd.TB 29) 8) 1 (Hd.fB (Hd.cB Hd.TB 29) 8) (gl C.ns) :=
 (ag (a8 (aI G.ok B h_need (by decide) eT (ac rfl rfl) (af (ac rfl rfl) ak rfl) rfl (fun _ => rfl) rfl (by decide)) (fun _ _ => rfl))
 (ag (aF (.inl rfl) (qh (tf rfl rfl) tg) (fun _ _ => rfl))
 (ag (bc (aO rfl) (tj G hz rfl (af (ac rfl rfl) (af (rZ qU aD) (af (rZ qU aD) ak rfl) rfl) rfl) rfl) (ag (aN (aX (ux G.ok) (ac rfl rfl) (ac rfl rfl) rfl) (ag (bc (aO rfl) (bq G.ok hz (aP G (bB B cm (B.look "made_of" (by decide)) (ac rfl rfl) (fun _ => rfl)) (ac rfl rfl) rfl)) (ag (bx sB bI (ac rfl rfl) (ac rfl rfl) (fun _ _ => rfl))
 am) (fun _ _ => rfl))
 am) am)
 am) (fun _ _ => rfl))
 (ag (aK (ju G hz rfl (ac rfl rfl) (fun _ => rfl) rfl))
 am))))
theorem rB {C : Cx} (G : Gl C Hd.vw) (hz : C.held = none)  {bk N : Addr} {mN : Str → Option Value} (B : Bk C bk N mN) {P : Params} (KX : (Hd.kk P).In C.hB) (hN : N = Hd.bkN) (h_need : MtAt C mN 0 "need" (sp_need C.ns)) (hspec : ∀ vs σ Q, sp_elders C.ns vs σ Q → vs.length = 2 ∧ gl C.ns (aC ["self", "number"] vs aH) σ (fin Q)) : MtAt C mN 1 "elders" (sp_elders C.ns) :=
 MtAt.mk (xs := ["self", "number"]) G.ok B KX (Hd.m_elders P) (by subst hN; exact Hd.mn_elders P) rfl rfl rfl rfl rfl (fun ws h => by
  obtain ⟨w0, w1, rfl⟩ := iu h
  rfl) rfl (rU G hz  B h_need) hspec
noncomputable def hU (ns : List Int) : ST :=
 (bf "mine" (aU "elders" (sp_elders ns) (ae "self") (ai (ae "one") ar)))
noncomputable def hH (ns : List Int) : ST :=
 (bA (aE kA (ai (cT ["mine"] (.name "number") (eY ns (aU "elders" (sp_elders ns) (ae "self") (ai (ae "other") ar))) (aL (av qN (ae "number") (ae "mine"))) (ae "number")) ar)))
noncomputable def e5 (ns : List Int) : ST := (aq (hU ns) (aq (hH ns) au))
theorem p9 {C : Cx} (G : Gl C Hd.vw) (hz : C.held = none)  {bk N : Addr} {mN : Str → Option Value} (B : Bk C bk N mN) (h_elders : MtAt C mN 1 "elders" (sp_elders C.ns)) : HS C (Hd.fS (Hd.cB Hd.TB 29) 9) 2 (Hd.fB (Hd.cB Hd.TB 29) 9) (e5 C.ns) :=
 (ag (aF (.inr rfl) (aI G.ok B h_elders (by decide) gE (ac rfl rfl) (af (ac rfl rfl) ak rfl) rfl (fun _ => rfl) rfl (by decide)) (fun _ _ => rfl))
 (ag (aK (tq G hz rfl (af (ff (CompOk.of rfl) (bq G.ok hz (aI G.ok B h_elders (by decide) gE (ac rfl rfl) (af (ac rfl rfl) ak rfl) rfl (fun _ => rfl) rfl (by decide))) (aO rfl) (gw (aX uw (ac rfl rfl) (aT rfl rfl) rfl)) (ac rfl rfl) (fun _ _ => rfl)) ak rfl) rfl))
 am))
theorem pY {C : Cx} (G : Gl C Hd.vw) (hz : C.held = none)  {bk N : Addr} {mN : Str → Option Value} (B : Bk C bk N mN) {P : Params} (KX : (Hd.kk P).In C.hB) (hN : N = Hd.bkN) (h_elders : MtAt C mN 1 "elders" (sp_elders C.ns)) (hspec : ∀ vs σ Q, sp_nearest C.ns vs σ Q → vs.length = 3 ∧ e5 C.ns (aC ["self", "one", "other"] vs aH) σ (fin Q)) : MtAt C mN 2 "nearest" (sp_nearest C.ns) :=
 MtAt.mk (xs := ["self", "one", "other"]) G.ok B KX (Hd.m_nearest P) (by subst hN; exact Hd.mn_nearest P) rfl rfl rfl rfl rfl (fun ws h => by
  obtain ⟨w0, w1, w2, rfl⟩ := ir h
  rfl) rfl (p9 G hz  B h_elders) hspec
noncomputable def jZ (ns : List Int) : ST :=
 (bf "told" (b4 ar))
noncomputable def jY (ns : List Int) : ST :=
 (bX (.name "elder") (eY ns (aU "elders" (sp_elders ns) (ae "self") (ai (ae "number") ar))) (aq (bf "text" (bg bz cz (av (aG ns) (cj "trees" (ae "self")) (ae "elder")) (ai (ae "path") ar)))
 (aq (bf "alike" (cT ["self", "path", "text"] (.name "parent") (eY ns (av (aG ns) (cj "made_of" (ae "self")) (ae "elder"))) (aL (av bF (bg bz cz (av (aG ns) (cj "trees" (ae "self")) (ae "parent")) (ai (ae "path") ar)) (ae "text"))) (ae "parent")))
 (aq (cZ (fg (aL (av tM (av (aG ns) (cj "made_of" (ae "self")) (ae "elder")) (d5 ar))) (fg (aL (av tN (ae "alike") (b4 ar))) tT)) (aq (bD (bg b8 bu (ae "told") (ai (ae "elder") ar)))
 au) au)
 au))))
noncomputable def jX (ns : List Int) : ST :=
 (bA (ae "told"))
noncomputable def iD (ns : List Int) : ST := (aq (jZ ns) (aq (jY ns) (aq (jX ns) au)))
theorem s4 {C : Cx} (G : Gl C Hd.vw) (hz : C.held = none)  {bk N : Addr} {mN : Str → Option Value} (B : Bk C bk N mN) (h_elders : MtAt C mN 1 "elders" (sp_elders C.ns)) : HS C (Hd.fS (Hd.cB Hd.TB 29) 11) 2 (Hd.fB (Hd.cB Hd.TB 29) 11) (iD C.ns) :=
 (ag (aF (.inl rfl) (br ak) (fun _ _ => rfl))
 (ag (bc (aO rfl) (bq G.ok hz (aI G.ok B h_elders (by decide) gE (aT rfl rfl) (af (ac rfl rfl) ak rfl) rfl (fun _ => rfl) rfl (by decide))) (ag (aF (.inr rfl) (bW G (aP G (bB B bJ (B.look "trees" (by decide)) (aT rfl rfl) (fun _ => rfl)) (ac rfl rfl) rfl) (af (aT rfl rfl) ak rfl) rfl (fun _ => rfl) rfl (by decide)) (fun _ _ => rfl))
 (ag (b6 (CompOk.of rfl) (bq G.ok hz (aP G (bB B cm (B.look "made_of" (by decide)) (aT rfl rfl) (fun _ => rfl)) (ac rfl rfl) rfl)) (aO rfl) (gw (aX bQ (bW G (aP G (bB B bJ (B.look "trees" (by decide)) (aT rfl rfl) (fun _ => rfl)) (ac rfl rfl) rfl) (af (aT rfl rfl) ak rfl) rfl (fun _ => rfl) rfl (by decide)) (aT rfl rfl) rfl)) (ac rfl rfl) (fun _ _ => rfl) rfl (b0 rfl rfl rfl))
 (ag (aN (bM (cv (aX um (aP G (bB B cm (B.look "made_of" (by decide)) (aT rfl rfl) (fun _ => rfl)) (ac rfl rfl) rfl) (bY ak) rfl) (cv (aX uz (ac rfl rfl) (br ak) rfl) cX))) (ag (a8 (bL (ac rfl rfl) (af (ac rfl rfl) ak rfl) rfl (fun _ => rfl) rfl (by decide)) (fun _ _ => rfl))
 am) am)
 am))) (fun _ _ => rfl))
 (ag (aK (ac rfl rfl))
 am)))
theorem sN {C : Cx} (G : Gl C Hd.vw) (hz : C.held = none)  {bk N : Addr} {mN : Str → Option Value} (B : Bk C bk N mN) {P : Params} (KX : (Hd.kk P).In C.hB) (hN : N = Hd.bkN) (h_elders : MtAt C mN 1 "elders" (sp_elders C.ns)) (hspec : ∀ vs σ Q, sp_story C.ns vs σ Q → vs.length = 3 ∧ iD C.ns (aC ["self", "number", "path"] vs aH) σ (fin Q)) : MtAt C mN 2 "story" (sp_story C.ns) :=
 MtAt.mk (xs := ["self", "number", "path"]) G.ok B KX (Hd.m_story P) (by subst hN; exact Hd.mn_story P) rfl rfl rfl rfl rfl (fun ws h => by
  obtain ⟨w0, w1, w2, rfl⟩ := ir h
  rfl) rfl (s4 G hz  B h_elders) hspec
noncomputable def eh (ns : List Int) : ST :=
 (bA (uV (aE b9 (ai (ae "_law_found") (ai (aw (.ty "int")) ar))) (wz tL (aE b9 (ai (ae "_law_found") (ai (aw (.ty "bool")) ar))))))
noncomputable def cF (ns : List Int) : ST := (aq (eh ns) au)
theorem ld {C : Cx} (G : Gl C Hd.vw) (hz : C.held = none)   : HS C (aR Hd.vw 25) 0 (bi Hd.vw 25) (cF C.ns) :=
 (ag (aK (qi (te (jv G rfl (af (ac rfl rfl) (af (o8 G rfl) ak rfl) rfl) rfl) (td (rZ ul (jv G rfl (af (ac rfl rfl) (af (m7 G rfl) ak rfl) rfl) rfl))))))
 am)
theorem kQ {C : Cx} (G : Gl C Hd.vw) (hz : C.held = none)   (hspec : ∀ vs σ Q, sp__law_whole C.ns vs σ Q → vs.length = 1 ∧ cF C.ns (aC ["_law_found"] vs aH) σ (fin Q)) : FnAt C 0 "_law_whole" (sp__law_whole C.ns) :=
 FnAt.mk (xs := ["_law_found"]) G 13 25 rfl rfl rfl rfl rfl (fun ws pm code doc h => by
  obtain ⟨w0, rfl⟩ := jC h
  rfl) rfl (ld G hz  ) hspec
noncomputable def dp (ns : List Int) : ST :=
 (cZ (aL (av lQ (ae "_law_k") (aE (bS ns) (ai (ae "_law_script") ar)))) (aq (bA (av (aG ns) (ae "_law_script") (ae "_law_k")))
 au) au)
noncomputable def dn (ns : List Int) : ST :=
 (bA (aw (.int 0)))
noncomputable def ci (ns : List Int) : ST := (aq (dp ns) (aq (dn ns) au))
theorem ji {C : Cx} (G : Gl C Hd.vw) (hz : C.held = none)   : HS C (aR Hd.vw 26) 0 (bi Hd.vw 26) (ci C.ns) :=
 (ag (aN (aX oE (ac rfl rfl) (co G rfl (af (ac rfl rfl) ak rfl) rfl) rfl) (ag (aK (aP G (ac rfl rfl) (ac rfl rfl) rfl))
 am) am)
 (ag (aK aD)
 am))
theorem i8 {C : Cx} (G : Gl C Hd.vw) (hz : C.held = none)   (hspec : ∀ vs σ Q, sp__law_cell_at C.ns vs σ Q → vs.length = 2 ∧ ci C.ns (aC ["_law_script", "_law_k"] vs aH) σ (fin Q)) : FnAt C 0 "_law_cell_at" (sp__law_cell_at C.ns) :=
 FnAt.mk (xs := ["_law_script", "_law_k"]) G 14 26 rfl rfl rfl rfl rfl (fun ws pm code doc h => by
  obtain ⟨w0, w1, rfl⟩ := iu h
  rfl) rfl (ji G hz  ) hspec
noncomputable def dm (ns : List Int) : ST :=
 (bA (av (aG ns) (aw (.str (Str.ofString "abcdefghijklmnopqrstuvwxyzABCDEFGHIJKLMNOPQRSTUVWXYZ0123456789.-_"))) (av bP (ae "_law_k") (aw (.int 65)))))
noncomputable def cg (ns : List Int) : ST := (aq (dm ns) au)
theorem jh {C : Cx} (G : Gl C Hd.vw) (hz : C.held = none)   : HS C (aR Hd.vw 27) 0 (bi Hd.vw 27) (cg C.ns) :=
 (ag (aK (aP G bd (aM bE (ac rfl rfl) aD) rfl))
 am)
theorem i7 {C : Cx} (G : Gl C Hd.vw) (hz : C.held = none)   (hspec : ∀ vs σ Q, sp__law_sign_by C.ns vs σ Q → vs.length = 1 ∧ cg C.ns (aC ["_law_k"] vs aH) σ (fin Q)) : FnAt C 0 "_law_sign_by" (sp__law_sign_by C.ns) :=
 FnAt.mk (xs := ["_law_k"]) G 15 27 rfl rfl rfl rfl rfl (fun ws pm code doc h => by
  obtain ⟨w0, rfl⟩ := jC h
  rfl) rfl (jh G hz  ) hspec
noncomputable def ei (ns : List Int) : ST :=
 (bA (b4 (ai (av cw (av cw (aw (.str (Str.ofString "f/"))) (aE (sp__law_sign_by ns) (ai (ae "_law_shift") ar))) (aw (.str (Str.ofString "f")))) (ai (av cw (av cw (aw (.str (Str.ofString "f/"))) (aE (sp__law_sign_by ns) (ai (av cw (ae "_law_shift") (aw (.int 1))) ar))) (aw (.str (Str.ofString "f")))) (ai (av cw (aw (.str (Str.ofString "g"))) (aE (sp__law_sign_by ns) (ai (av f7 (ae "_law_shift") (aw (.int 65))) ar))) ar)))))
noncomputable def cG (ns : List Int) : ST := (aq (ei ns) au)
theorem lf {C : Cx} (G : Gl C Hd.vw) (hz : C.held = none)  (h__law_sign_by : FnAt C 0 "_law_sign_by" (sp__law_sign_by C.ns)) : HS C (aR Hd.vw 28) 1 (bi Hd.vw 28) (cG C.ns) :=
 (ag (aK (br (af (aM cb (aM cb bd (aB G h__law_sign_by (by decide) rfl rfl (af (ac rfl rfl) ak rfl) rfl)) bd) (af (aM cb (aM cb bd (aB G h__law_sign_by (by decide) rfl rfl (af (aM cb (ac rfl rfl) aD) ak rfl) rfl)) bd) (af (aM cb bd (aB G h__law_sign_by (by decide) rfl rfl (af (aM fG (ac rfl rfl) aD) ak rfl) rfl)) ak rfl) rfl) rfl)))
 am)
theorem kR {C : Cx} (G : Gl C Hd.vw) (hz : C.held = none)  (h__law_sign_by : FnAt C 0 "_law_sign_by" (sp__law_sign_by C.ns)) (hspec : ∀ vs σ Q, sp__law_paths C.ns vs σ Q → vs.length = 1 ∧ cG C.ns (aC ["_law_shift"] vs aH) σ (fin Q)) : FnAt C 1 "_law_paths" (sp__law_paths C.ns) :=
 FnAt.mk (xs := ["_law_shift"]) G 16 28 rfl rfl rfl rfl rfl (fun ws pm code doc h => by
  obtain ⟨w0, rfl⟩ := jC h
  rfl) rfl (lf G hz  h__law_sign_by) hspec
noncomputable def eG (ns : List Int) : ST :=
 (bf "_law_one" (av bP (av f7 (ae "_law_cell") (aw (.int 5))) (aU "many" (sp_many ns) (ae "_law_book") ar)))
noncomputable def eF (ns : List Int) : ST :=
 (bf "_law_other" (av bP (av bP (av lP (ae "_law_cell") (aw (.int 48271))) (aw (.int 65537))) (aU "many" (sp_many ns) (ae "_law_book") ar)))
noncomputable def eE (ns : List Int) : ST :=
 (cZ (aL (av bF (ae "_law_one") (ae "_law_other"))) (aq (bA (aw .none))
 au) au)
noncomputable def eD (ns : List Int) : ST :=
 (bf "_law_elder" (aU "tree" (sp_tree ns) (ae "_law_book") (ai (aU "nearest" (sp_nearest ns) (ae "_law_book") (ai (ae "_law_one") (ai (ae "_law_other") ar))) ar)))
noncomputable def eB (ns : List Int) : ST :=
 (bf "_law_picks" fJ)
noncomputable def eA (ns : List Int) : ST :=
 (bX (.name "_law_clash") (eY ns (aE (sp_clashes ns) (ai (ae "_law_elder") (ai (aU "tree" (sp_tree ns) (ae "_law_book") (ai (ae "_law_one") ar)) (ai (aU "tree" (sp_tree ns) (ae "_law_book") (ai (ae "_law_other") ar)) ar))))) (aq (bp iq (av (aG ns) (b4 (ai (aw .none) (ai (aE oq (ai (av bP (ae "_law_cell") (aw (.int 7))) ar)) (ai (bg bz cz (aU "tree" (sp_tree ns) (ae "_law_book") (ai (ae "_law_one") ar)) (ai (av (aG ns) (ae "_law_clash") (aw (.int 0))) ar)) ar)))) (av bP (av f7 (ae "_law_cell") (aw (.int 11))) (aw (.int 3)))) (ae "_law_picks") (av (aG ns) (ae "_law_clash") (aw (.int 0))))
 au))
noncomputable def ew (ns : List Int) : ST :=
 (bD (aU "merge" (sp_merge ns) (ae "_law_book") (ai (ae "_law_one") (ai (ae "_law_other") (ai (ae "_law_picks") ar)))))
noncomputable def cI (ns : List Int) : ST := (aq (eG ns) (aq (eF ns) (aq (eE ns) (aq (eD ns) (aq (eB ns) (aq (eA ns) (aq (ew ns) au)))))))
theorem lh {C : Cx} (G : Gl C Hd.vw) (hz : C.held = none)  {bk N : Addr} {mN : Str → Option Value} (B : Bk C bk N mN) (h_many : MtAt C mN 0 "many" (sp_many C.ns)) (h_nearest : MtAt C mN 2 "nearest" (sp_nearest C.ns)) (h_tree : MtAt C mN 1 "tree" (sp_tree C.ns)) (h_clashes : FnAt C 4 "clashes" (sp_clashes C.ns)) (h_merge : MtAt C mN 6 "merge" (sp_merge C.ns)) : HS C (aR Hd.vw 29) 7 (bi Hd.vw 29) (cI C.ns) :=
 (ag (aF (.inl rfl) (aM bE (aM fG (ac rfl rfl) aD) (aI G.ok B h_many (by decide) c0 (ac rfl rfl) ak rfl (fun _ => rfl) rfl (by decide))) (fun _ _ => rfl))
 (ag (aF (.inl rfl) (aM bE (aM bE (aM nB (ac rfl rfl) aD) aD) (aI G.ok B h_many (by decide) c0 (ac rfl rfl) ak rfl (fun _ => rfl) rfl (by decide))) (fun _ _ => rfl))
 (ag (aN (aX bQ (ac rfl rfl) (ac rfl rfl) rfl) (ag m0
 am) am)
 (ag (aF (.inl rfl) (aI G.ok B h_tree (by decide) cC (ac rfl rfl) (af (aI G.ok B h_nearest (by decide) iZ (ac rfl rfl) (af (ac rfl rfl) (af (ac rfl rfl) ak rfl) rfl) rfl (fun _ => rfl) rfl (by decide)) ak rfl) rfl (fun _ => rfl) rfl (by decide)) (fun _ _ => rfl))
 (ag (aF (.inl rfl) eQ (fun _ _ => rfl))
 (ag (bc (aO rfl) (bq G.ok hz (aB G h_clashes (by decide) rfl rfl (af (ac rfl rfl) (af (aI G.ok B h_tree (by decide) cC (ac rfl rfl) (af (ac rfl rfl) ak rfl) rfl (fun _ => rfl) rfl (by decide)) (af (aI G.ok B h_tree (by decide) cC (ac rfl rfl) (af (ac rfl rfl) ak rfl) rfl (fun _ => rfl) rfl (by decide)) ak rfl) rfl) rfl) rfl)) (ag (bx eU (aP G (br (af ly (af (tl G rfl (af (aM bE (ac rfl rfl) aD) ak rfl) rfl) (af (bW G (aI G.ok B h_tree (by decide) cC (ac rfl rfl) (af (ac rfl rfl) ak rfl) rfl (fun _ => rfl) rfl (by decide)) (af (aP G (ac rfl rfl) aD rfl) ak rfl) rfl (fun _ => rfl) rfl (by decide)) ak rfl) rfl) rfl)) (aM bE (aM fG (ac rfl rfl) aD) aD) rfl) (ac rfl rfl) (aP G (ac rfl rfl) aD rfl) (fun _ _ => rfl))
 am) (fun _ _ => rfl))
 (ag (a8 (aI G.ok B h_merge (by decide) qR (ac rfl rfl) (af (ac rfl rfl) (af (ac rfl rfl) (af (ac rfl rfl) ak rfl) rfl) rfl) rfl (fun _ => rfl) rfl (by decide)) (fun _ _ => rfl))
 am)))))))
theorem kT {C : Cx} (G : Gl C Hd.vw) (hz : C.held = none)  {bk N : Addr} {mN : Str → Option Value} (B : Bk C bk N mN) (h_many : MtAt C mN 0 "many" (sp_many C.ns)) (h_nearest : MtAt C mN 2 "nearest" (sp_nearest C.ns)) (h_tree : MtAt C mN 1 "tree" (sp_tree C.ns)) (h_clashes : FnAt C 4 "clashes" (sp_clashes C.ns)) (h_merge : MtAt C mN 6 "merge" (sp_merge C.ns)) (hspec : ∀ vs σ Q, sp__law_joins C.ns vs σ Q → vs.length = 2 ∧ cI C.ns (aC ["_law_book", "_law_cell"] vs aH) σ (fin Q)) : FnAt C 7 "_law_joins" (sp__law_joins C.ns) :=
 FnAt.mk (xs := ["_law_book", "_law_cell"]) G 17 29 rfl rfl rfl rfl rfl (fun ws pm code doc h => by
  obtain ⟨w0, w1, rfl⟩ := iu h
  rfl) rfl (lh G hz  B h_many h_nearest h_tree h_clashes h_merge) hspec
noncomputable def eK (ns : List Int) : ST :=
 (bf "_law_parent" (av bP (av f7 (ae "_law_cell") (aw (.int 5))) (aU "many" (sp_many ns) (ae "_law_book") ar)))
noncomputable def eJ (ns : List Int) : ST :=
 (bf "_law_path" (av (aG ns) (ae "_law_paths_here") (av bP (av bP (av lP (ae "_law_cell") (aw (.int 48271))) (aw (.int 65537))) (aw (.int 3)))))
noncomputable def eI (ns : List Int) : ST :=
 (bf "_law_deeds" (b4 (ai (d5 (ai (aw (.str (Str.ofString "put"))) (ai (ae "_law_path") (ai (av (aG ns) (b4 (ai (aw (.str (Str.ofString ""))) (ai (aw (.str (Str.ofString "b"))) (ai (aw (.str (Str.ofString "c"))) ar)))) (av bP (av bP (av lP (ae "_law_cell") (aw (.int 69621))) (aw (.int 99991))) (aw (.int 3)))) ar)))) ar)))
noncomputable def eH (ns : List Int) : ST :=
 (cZ (fg (aL (av bF (av bP (ae "_law_cell") (aw (.int 5))) (aw (.int 3)))) (fg (aL (av gT (ae "_law_path") (aU "tree" (sp_tree ns) (ae "_law_book") (ai (ae "_law_parent") ar)))) tT)) (aq (bf "_law_deeds" (b4 (ai (d5 (ai (aw (.str (Str.ofString "cut"))) (ai (ae "_law_path") ar))) ar)))
 au) au)
noncomputable def cW (ns : List Int) : ST :=
 (cZ (aL (av bF (av bP (ae "_law_cell") (aw (.int 5))) (aw (.int 4)))) (aq (bf "_law_deeds" (b4 ar))
 au) au)
noncomputable def ch (ns : List Int) : ST :=
 (bD (aU "grow" (sp_grow ns) (ae "_law_book") (ai (ae "_law_parent") (ai (ae "_law_deeds") ar))))
noncomputable def cJ (ns : List Int) : ST := (aq (eK ns) (aq (eJ ns) (aq (eI ns) (aq (eH ns) (aq (cW ns) (aq (ch ns) au))))))
theorem li {C : Cx} (G : Gl C Hd.vw) (hz : C.held = none)  {bk N : Addr} {mN : Str → Option Value} (B : Bk C bk N mN) (h_many : MtAt C mN 0 "many" (sp_many C.ns)) (h_tree : MtAt C mN 1 "tree" (sp_tree C.ns)) (h_grow : MtAt C mN 4 "grow" (sp_grow C.ns)) : HS C (aR Hd.vw 30) 5 (bi Hd.vw 30) (cJ C.ns) :=
 (ag (aF (.inl rfl) (aM bE (aM fG (ac rfl rfl) aD) (aI G.ok B h_many (by decide) c0 (ac rfl rfl) ak rfl (fun _ => rfl) rfl (by decide))) (fun _ _ => rfl))
 (ag (aF (.inl rfl) (aP G (ac rfl rfl) (aM bE (aM bE (aM nB (ac rfl rfl) aD) aD) aD) rfl) (fun _ _ => rfl))
 (ag (aF (.inl rfl) (br (af (bY (af bd (af (ac rfl rfl) (af (aP G (br (af bd (af bd (af bd ak rfl) rfl) rfl)) (aM bE (aM bE (aM nB (ac rfl rfl) aD) aD) aD) rfl) ak rfl) rfl) rfl)) ak rfl)) (fun _ _ => rfl))
 (ag (aN (bM (cv (aX bQ (aM bE (ac rfl rfl) aD) aD rfl) (cv (aX (kD G.ok) (ac rfl rfl) (aI G.ok B h_tree (by decide) cC (ac rfl rfl) (af (ac rfl rfl) ak rfl) rfl (fun _ => rfl) rfl (by decide)) rfl) cX))) (ag (aF (.inl rfl) (br (af (bY (af bd (af (ac rfl rfl) ak rfl) rfl)) ak rfl)) (fun _ _ => rfl))
 am) am)
 (ag (aN (aX bQ (aM bE (ac rfl rfl) aD) aD rfl) (ag (aF (.inl rfl) (br ak) (fun _ _ => rfl))
 am) am)
 (ag (a8 (aI G.ok B h_grow (by decide) sA (ac rfl rfl) (af (ac rfl rfl) (af (ac rfl rfl) ak rfl) rfl) rfl (fun _ => rfl) rfl (by decide)) (fun _ _ => rfl))
 am))))))
theorem kU {C : Cx} (G : Gl C Hd.vw) (hz : C.held = none)  {bk N : Addr} {mN : Str → Option Value} (B : Bk C bk N mN) (h_many : MtAt C mN 0 "many" (sp_many C.ns)) (h_tree : MtAt C mN 1 "tree" (sp_tree C.ns)) (h_grow : MtAt C mN 4 "grow" (sp_grow C.ns)) (hspec : ∀ vs σ Q, sp__law_grows C.ns vs σ Q → vs.length = 3 ∧ cJ C.ns (aC ["_law_book", "_law_cell", "_law_paths_here"] vs aH) σ (fin Q)) : FnAt C 5 "_law_grows" (sp__law_grows C.ns) :=
 FnAt.mk (xs := ["_law_book", "_law_cell", "_law_paths_here"]) G 18 30 rfl rfl rfl rfl rfl (fun ws pm code doc h => by
  obtain ⟨w0, w1, w2, rfl⟩ := ir h
  rfl) rfl (li G hz  B h_many h_tree h_grow) hspec
noncomputable def et (ns : List Int) : ST :=
 (bf "_law_known_here" (av nv (b4 (ai (aw (.bool false)) ar)) (aU "many" (sp_many ns) (ae "_law_book") ar)))
noncomputable def er (ns : List Int) : ST :=
 (bp qE (aw (.bool true)) (ae "_law_known_here") (ae "_law_number"))
noncomputable def eo (ns : List Int) : ST :=
 (bX (.name "_law_step") (dB (ai (av cw (ae "_law_number") (aw (.int 1))) ar)) (aq (bf "_law_later" (av oz (ae "_law_number") (ae "_law_step")))
 (aq (cZ (aL (av (aG ns) (ae "_law_known_here") (ae "_law_later"))) (aq (bX (.name "_law_parent") (eY ns (aU "parents" (sp_parents ns) (ae "_law_book") (ai (ae "_law_later") ar))) (aq (bp qE (aw (.bool true)) (ae "_law_known_here") (ae "_law_parent"))
 au))
 au) au)
 au)))
noncomputable def ek (ns : List Int) : ST :=
 (bA (ae "_law_known_here"))
noncomputable def cH (ns : List Int) : ST := (aq (et ns) (aq (er ns) (aq (eo ns) (aq (ek ns) au))))
theorem lg {C : Cx} (G : Gl C Hd.vw) (hz : C.held = none)  {bk N : Addr} {mN : Str → Option Value} (B : Bk C bk N mN) (h_many : MtAt C mN 0 "many" (sp_many C.ns)) (h_parents : MtAt C mN 1 "parents" (sp_parents C.ns)) : HS C (aR Hd.vw 31) 2 (bi Hd.vw 31) (cH C.ns) :=
 (ag (aF (.inl rfl) (aM sC (br (af bI ak rfl)) (aI G.ok B h_many (by decide) c0 (ac rfl rfl) ak rfl (fun _ => rfl) rfl (by decide))) (fun _ _ => rfl))
 (ag (bx oB bI (ac rfl rfl) (ac rfl rfl) (fun _ _ => rfl))
 (ag (bc (aO rfl) (gN G hz rfl (af (aM cb (ac rfl rfl) aD) ak rfl) rfl) (ag (aF (.inl rfl) (aM qS (ac rfl rfl) (ac rfl rfl)) (fun _ _ => rfl))
 (ag (aN (ct (aP G (ac rfl rfl) (ac rfl rfl) rfl) (fun _ _ => rfl)) (ag (bc (aO rfl) (bq G.ok hz (aI G.ok B h_parents (by decide) iY (ac rfl rfl) (af (ac rfl rfl) ak rfl) rfl (fun _ => rfl) rfl (by decide))) (ag (bx oB bI (ac rfl rfl) (ac rfl rfl) (fun _ _ => rfl))
 am) (fun _ _ => rfl))
 am) am)
 am)) (fun _ _ => rfl))
 (ag (aK (ac rfl rfl))
 am))))
theorem kS {C : Cx} (G : Gl C Hd.vw) (hz : C.held = none)  {bk N : Addr} {mN : Str → Option Value} (B : Bk C bk N mN) (h_many : MtAt C mN 0 "many" (sp_many C.ns)) (h_parents : MtAt C mN 1 "parents" (sp_parents C.ns)) (hspec : ∀ vs σ Q, sp__law_known C.ns vs σ Q → vs.length = 2 ∧ cH C.ns (aC ["_law_book", "_law_number"] vs aH) σ (fin Q)) : FnAt C 2 "_law_known" (sp__law_known C.ns) :=
 FnAt.mk (xs := ["_law_book", "_law_number"]) G 19 31 rfl rfl rfl rfl rfl (fun ws pm code doc h => by
  obtain ⟨w0, w1, rfl⟩ := iu h
  rfl) rfl (lg G hz  B h_many h_parents) hspec
noncomputable def gt (ns : List Int) : ST :=
 (bf "_law_known_here" (aE (sp__law_known ns) (ai (ae "_law_book") (ai (ae "_law_number") ar))))
noncomputable def gq (ns : List Int) : ST :=
 (bf "_law_due_here" (b4 ar))
noncomputable def gp (ns : List Int) : ST :=
 (bX (.name "_law_k") (dB (ai (aw (.int 1)) (ai (av cw (ae "_law_number") (aw (.int 1))) ar))) (aq (bf "_law_text" (bg bz cz (aU "tree" (sp_tree ns) (ae "_law_book") (ai (ae "_law_k") ar)) (ai (ae "_law_path") ar)))
 (aq (bf "_law_alike" (cT ["_law_book", "_law_path", "_law_text"] (.name "_law_parent") (eY ns (aU "parents" (sp_parents ns) (ae "_law_book") (ai (ae "_law_k") ar))) (aL (av bF (bg bz cz (aU "tree" (sp_tree ns) (ae "_law_book") (ai (ae "_law_parent") ar)) (ai (ae "_law_path") ar)) (ae "_law_text"))) (ae "_law_parent")))
 (aq (cZ (fg (aL (av (aG ns) (ae "_law_known_here") (ae "_law_k"))) (fg (aL (av bF (aE (bS ns) (ai (ae "_law_alike") ar)) (aw (.int 0)))) tT)) (aq (bD (bg b8 bu (ae "_law_due_here") (ai (ae "_law_k") ar)))
 au) au)
 au))))
noncomputable def gn (ns : List Int) : ST :=
 (bA (ae "_law_due_here"))
noncomputable def dG (ns : List Int) : ST := (aq (gt ns) (aq (gq ns) (aq (gp ns) (aq (gn ns) au))))
theorem n6 {C : Cx} (G : Gl C Hd.vw) (hz : C.held = none)  {bk N : Addr} {mN : Str → Option Value} (B : Bk C bk N mN) (h__law_known : FnAt C 2 "_law_known" (sp__law_known C.ns)) (h_tree : MtAt C mN 1 "tree" (sp_tree C.ns)) (h_parents : MtAt C mN 1 "parents" (sp_parents C.ns)) : HS C (aR Hd.vw 32) 3 (bi Hd.vw 32) (dG C.ns) :=
 (ag (aF (.inl rfl) (aB G h__law_known (by decide) rfl rfl (af (aT rfl rfl) (af (ac rfl rfl) ak rfl) rfl) rfl) (fun _ _ => rfl))
 (ag (aF (.inl rfl) (br ak) (fun _ _ => rfl))
 (ag (bc (aO rfl) (gN G hz rfl (af aD (af (aM cb (ac rfl rfl) aD) ak rfl) rfl) rfl) (ag (aF (.inr rfl) (bW G (aI G.ok B h_tree (by decide) cC (aT rfl rfl) (af (ac rfl rfl) ak rfl) rfl (fun _ => rfl) rfl (by decide)) (af (aT rfl rfl) ak rfl) rfl (fun _ => rfl) rfl (by decide)) (fun _ _ => rfl))
 (ag (b6 (CompOk.of rfl) (bq G.ok hz (aI G.ok B h_parents (by decide) iY (aT rfl rfl) (af (ac rfl rfl) ak rfl) rfl (fun _ => rfl) rfl (by decide))) (aO rfl) (gw (aX bQ (bW G (aI G.ok B h_tree (by decide) cC (aT rfl rfl) (af (ac rfl rfl) ak rfl) rfl (fun _ => rfl) rfl (by decide)) (af (aT rfl rfl) ak rfl) rfl (fun _ => rfl) rfl (by decide)) (aT rfl rfl) rfl)) (ac rfl rfl) (fun _ _ => rfl) rfl (b0 rfl rfl rfl))
 (ag (aN (bM (cv (ct (aP G (ac rfl rfl) (ac rfl rfl) rfl) (fun _ _ => rfl)) (cv (aX bQ (co G rfl (af (ac rfl rfl) ak rfl) rfl) aD rfl) cX))) (ag (a8 (bL (ac rfl rfl) (af (ac rfl rfl) ak rfl) rfl (fun _ => rfl) rfl (by decide)) (fun _ _ => rfl))
 am) am)
 am))) (fun _ _ => rfl))
 (ag (aK (ac rfl rfl))
 am))))
theorem nR {C : Cx} (G : Gl C Hd.vw) (hz : C.held = none)  {bk N : Addr} {mN : Str → Option Value} (B : Bk C bk N mN) (h__law_known : FnAt C 2 "_law_known" (sp__law_known C.ns)) (h_tree : MtAt C mN 1 "tree" (sp_tree C.ns)) (h_parents : MtAt C mN 1 "parents" (sp_parents C.ns)) (hspec : ∀ vs σ Q, sp__law_due C.ns vs σ Q → vs.length = 3 ∧ dG C.ns (aC ["_law_book", "_law_number", "_law_path"] vs aH) σ (fin Q)) : FnAt C 3 "_law_due" (sp__law_due C.ns) :=
 FnAt.mk (xs := ["_law_book", "_law_number", "_law_path"]) G 20 32 rfl rfl rfl rfl rfl (fun ws pm code doc h => by
  obtain ⟨w0, w1, w2, rfl⟩ := ir h
  rfl) rfl (n6 G hz  B h__law_known h_tree h_parents) hspec
noncomputable def fD (ns : List Int) : ST :=
 (bf "_law_dues" (cT ["_law_book"] (.tup ["_law_number", "_law_path"]) (eY ns (ae "_law_asked_here")) tT (aE (sp__law_due ns) (ai (ae "_law_book") (ai (ae "_law_number") (ai (ae "_law_path") ar))))))
noncomputable def fC (ns : List Int) : ST :=
 (bf "_law_found" (cT ["_law_book"] (.tup ["_law_number", "_law_path"]) (eY ns (ae "_law_asked_here")) tT (aU "story" (sp_story ns) (ae "_law_book") (ai (ae "_law_number") (ai (ae "_law_path") ar)))))
noncomputable def fz (ns : List Int) : ST :=
 (bX (.tup ["_law_row", "_law_due_here"]) (uH (ai (ae "_law_found") (ai (ae "_law_dues") ar))) (aq (cZ (nd (ip (aL (aE b9 (ai (ae "_law_row") (ai (aw (.ty "list")) ar))))) (nd (aL (av sz (aE (bS ns) (ai (cT [] (.name "_law_k") (eY ns (ae "_law_row")) (ip (aL (aE (sp__law_whole ns) (ai (ae "_law_k") ar)))) (ae "_law_k")) ar)) (aw (.int 0)))) (nd (aL (av qL (ae "_law_row") (ae "_law_due_here"))) tF))) (aq (bA (aw (.bool false)))
 au) au)
 au))
noncomputable def fw (ns : List Int) : ST :=
 (bX (.name "_law_row") (eY ns (ae "_law_found")) (aq (bD (bg b8 bu (ae "_law_row") (ai (aw (.int 0)) ar)))
 au))
noncomputable def fu (ns : List Int) : ST :=
 (bA (av qP (cT ["_law_book"] (.tup ["_law_number", "_law_path"]) (eY ns (ae "_law_asked_here")) tT (aU "story" (sp_story ns) (ae "_law_book") (ai (ae "_law_number") (ai (ae "_law_path") ar)))) (ae "_law_dues")))
noncomputable def c9 (ns : List Int) : ST := (aq (fD ns) (aq (fC ns) (aq (fz ns) (aq (fw ns) (aq (fu ns) au)))))
theorem mD {C : Cx} (G : Gl C Hd.vw) (hz : C.held = none)  {bk N : Addr} {mN : Str → Option Value} (B : Bk C bk N mN) (hzip : C.mg (Str.ofString "zip") = Option.none) (h__law_due : FnAt C 3 "_law_due" (sp__law_due C.ns)) (h_story : MtAt C mN 2 "story" (sp_story C.ns)) (h__law_whole : FnAt C 0 "_law_whole" (sp__law_whole C.ns)) : HS C (aR Hd.vw 33) 4 (bi Hd.vw 33) (c9 C.ns) :=
 (ag (b6 (CompOk.of rfl) (bq G.ok hz (ac rfl rfl)) (lw G.ok (l := [("_law_number", _), ("_law_path", _)]) (by decide)) dI (aB G h__law_due (by decide) rfl rfl (af (aT rfl rfl) (af (ac rfl rfl) (af (ac rfl rfl) ak rfl) rfl) rfl) rfl) (fun _ _ => rfl) rfl (b0 rfl rfl rfl))
 (ag (b6 (CompOk.of rfl) (bq G.ok hz (ac rfl rfl)) (lw G.ok (l := [("_law_number", _), ("_law_path", _)]) (by decide)) dI (aI G.ok B h_story (by decide) lR (aT rfl rfl) (af (ac rfl rfl) (af (ac rfl rfl) ak rfl) rfl) rfl (fun _ => rfl) rfl (by decide)) (fun _ _ => rfl) rfl (b0 rfl rfl rfl))
 (ag (n8 G hz hzip (x1 := "_law_row") (x2 := "_law_due_here") rfl (by decide) (af (ac rfl rfl) (af (ac rfl rfl) ak rfl) rfl) rfl (ag (aN (bM (cr (dc (ct (jv G rfl (af (ac rfl rfl) (af (r4 G rfl) ak rfl) rfl) rfl) (fun _ _ => rfl))) (cr (aX tO (co G rfl (af (ff (CompOk.of rfl) (bq G.ok hz (ac rfl rfl)) (aO rfl) (gw (dc (ct (aB G h__law_whole (by decide) rfl rfl (af (ac rfl rfl) ak rfl) rfl) (fun _ _ => rfl)))) (ac rfl rfl) (fun _ _ => rfl)) ak rfl) rfl) aD rfl) (cr (aX uo (ac rfl rfl) (ac rfl rfl) rfl) dq)))) (ag (aK bI)
 am) am)
 am) (fun _ _ => rfl))
 (ag (bc (aO rfl) (bq G.ok hz (ac rfl rfl)) (ag (a8 (bL (ac rfl rfl) (af aD ak rfl) rfl (fun _ => rfl) rfl (by decide)) (fun _ _ => rfl))
 am) (fun _ _ => rfl))
 (ag (aK (r6 (qX G.ok) (ff (CompOk.of rfl) (bq G.ok hz (ac rfl rfl)) (lw G.ok (l := [("_law_number", _), ("_law_path", _)]) (by decide)) dI (aI G.ok B h_story (by decide) lR (aT rfl rfl) (af (ac rfl rfl) (af (ac rfl rfl) ak rfl) rfl) rfl (fun _ => rfl) rfl (by decide)) (fun _ _ => rfl)) (ac rfl rfl) rfl))
 am)))))
theorem mi {C : Cx} (G : Gl C Hd.vw) (hz : C.held = none)  {bk N : Addr} {mN : Str → Option Value} (B : Bk C bk N mN) (hzip : C.mg (Str.ofString "zip") = Option.none) (h__law_due : FnAt C 3 "_law_due" (sp__law_due C.ns)) (h_story : MtAt C mN 2 "story" (sp_story C.ns)) (h__law_whole : FnAt C 0 "_law_whole" (sp__law_whole C.ns)) (hspec : ∀ vs σ Q, sp__law_told C.ns vs σ Q → vs.length = 2 ∧ c9 C.ns (aC ["_law_book", "_law_asked_here"] vs aH) σ (fin Q)) : FnAt C 4 "_law_told" (sp__law_told C.ns) :=
 FnAt.mk (xs := ["_law_book", "_law_asked_here"]) G 21 33 rfl rfl rfl rfl rfl (fun ws pm code doc h => by
  obtain ⟨w0, w1, rfl⟩ := iu h
  rfl) rfl (mD G hz  B hzip h__law_due h_story h__law_whole) hspec
noncomputable def eP (ns : List Int) : ST :=
 (bf "_law_odd" (b4 (ai (aw (.str (Str.ofString "f"))) (ai (aw (.str (Str.ofString ""))) (ai (aw (.str (Str.ofString "no/such"))) (ai (aw (.str (Str.ofString "a//b"))) (ai (av cw (aw (.str (Str.ofString "/"))) (av (aG ns) (ae "_law_paths_here") (aw (.int 0)))) (ai (av cw (av (aG ns) (ae "_law_paths_here") (aw (.int 1))) (aw (.str (Str.ofString "/")))) (ai (aw (.str (Str.ofString "a b"))) (ai (aw (.str (Str.ofString "a/."))) (ai (aw (.str (Str.ofString "f/../f"))) ar)))))))))))
noncomputable def eO (ns : List Int) : ST :=
 (bf "_law_cell" (av f7 (aE (sp__law_cell_at ns) (ai (ae "_law_script") (ai (aw (.int 2)) ar))) (ae "_law_shift")))
noncomputable def eN (ns : List Int) : ST :=
 (bf "_law_numbers" (b4 (ai (av bP (av f7 (aE (sp__law_cell_at ns) (ai (ae "_law_script") (ai (aw (.int 1)) ar))) (ae "_law_shift")) (aU "many" (sp_many ns) (ae "_law_book") ar)) (ai (av bP (ae "_law_cell") (aU "many" (sp_many ns) (ae "_law_book") ar)) ar))))
noncomputable def eM (ns : List Int) : ST :=
 (bA (b4 (ai (d5 (ai (av (aG ns) (ae "_law_numbers") (aw (.int 0))) (ai (av (aG ns) (ae "_law_paths_here") (av bP (ae "_law_cell") (aw (.int 3)))) ar))) (ai (d5 (ai (av (aG ns) (ae "_law_numbers") (aw (.int 1))) (ai (av (aG ns) (ae "_law_paths_here") (av bP (av cw (ae "_law_cell") (aw (.int 1))) (aw (.int 3)))) ar))) (ai (d5 (ai (av (aG ns) (ae "_law_numbers") (aw (.int 0))) (ai (av (aG ns) (ae "_law_odd") (av bP (av f7 (ae "_law_cell") (aw (.int 3))) (aw (.int 9)))) ar))) ar)))))
noncomputable def cK (ns : List Int) : ST := (aq (eP ns) (aq (eO ns) (aq (eN ns) (aq (eM ns) au))))
theorem lj {C : Cx} (G : Gl C Hd.vw) (hz : C.held = none)  {bk N : Addr} {mN : Str → Option Value} (B : Bk C bk N mN) (h__law_cell_at : FnAt C 0 "_law_cell_at" (sp__law_cell_at C.ns)) (h_many : MtAt C mN 0 "many" (sp_many C.ns)) : HS C (aR Hd.vw 34) 1 (bi Hd.vw 34) (cK C.ns) :=
 (ag (aF (.inl rfl) (br (af bd (af bd (af bd (af bd (af (aM cb bd (aP G (ac rfl rfl) aD rfl)) (af (aM cb (aP G (ac rfl rfl) aD rfl) bd) (af bd (af bd (af bd ak rfl) rfl) rfl) rfl) rfl) rfl) rfl) rfl) rfl)) (fun _ _ => rfl))
 (ag (aF (.inl rfl) (aM fG (aB G h__law_cell_at (by decide) rfl rfl (af (ac rfl rfl) (af aD ak rfl) rfl) rfl) (ac rfl rfl)) (fun _ _ => rfl))
 (ag (aF (.inl rfl) (br (af (aM bE (aM fG (aB G h__law_cell_at (by decide) rfl rfl (af (ac rfl rfl) (af aD ak rfl) rfl) rfl) (ac rfl rfl)) (aI G.ok B h_many (by decide) c0 (ac rfl rfl) ak rfl (fun _ => rfl) rfl (by decide))) (af (aM bE (ac rfl rfl) (aI G.ok B h_many (by decide) c0 (ac rfl rfl) ak rfl (fun _ => rfl) rfl (by decide))) ak rfl) rfl)) (fun _ _ => rfl))
 (ag (aK (br (af (bY (af (aP G (ac rfl rfl) aD rfl) (af (aP G (ac rfl rfl) (aM bE (ac rfl rfl) aD) rfl) ak rfl) rfl)) (af (bY (af (aP G (ac rfl rfl) aD rfl) (af (aP G (ac rfl rfl) (aM bE (aM cb (ac rfl rfl) aD) aD) rfl) ak rfl) rfl)) (af (bY (af (aP G (ac rfl rfl) aD rfl) (af (aP G (ac rfl rfl) (aM bE (aM fG (ac rfl rfl) aD) aD) rfl) ak rfl) rfl)) ak rfl) rfl) rfl)))
 am))))
theorem kW {C : Cx} (G : Gl C Hd.vw) (hz : C.held = none)  {bk N : Addr} {mN : Str → Option Value} (B : Bk C bk N mN) (h__law_cell_at : FnAt C 0 "_law_cell_at" (sp__law_cell_at C.ns)) (h_many : MtAt C mN 0 "many" (sp_many C.ns)) (hspec : ∀ vs σ Q, sp__law_asked C.ns vs σ Q → vs.length = 4 ∧ cK C.ns (aC ["_law_script", "_law_book", "_law_paths_here", "_law_shift"] vs aH) σ (fin Q)) : FnAt C 1 "_law_asked" (sp__law_asked C.ns) :=
 FnAt.mk (xs := ["_law_script", "_law_book", "_law_paths_here", "_law_shift"]) G 22 34 rfl rfl rfl rfl rfl (fun ws pm code doc h => by
  obtain ⟨w0, w1, w2, w3, rfl⟩ := uD h
  rfl) rfl (lj G hz  B h__law_cell_at h_many) hspec
noncomputable def oZ (ns : List Int) : ST :=
 (bf "_law_book" (uT (sp___init__ ns)))
noncomputable def oY (ns : List Int) : ST :=
 (bf "_law_paths_here" (aE (sp__law_paths ns) (ai (aE (sp__law_cell_at ns) (ai (ae "_law_script") (ai (aw (.int 0)) ar))) ar)))
noncomputable def oX (ns : List Int) : ST :=
 (bf "_law_cells" (sR ns (ae "_law_script") (lO (aw (.int 4))) (lO (aw (.int 29)))))
noncomputable def oW (ns : List Int) : ST :=
 (bf "_law_half" (av bP (aE (sp__law_cell_at ns) (ai (ae "_law_script") (ai (aw (.int 3)) ar))) (av cw (aE (bS ns) (ai (ae "_law_cells") ar)) (aw (.int 1)))))
noncomputable def oV (ns : List Int) : ST :=
 (bf "_law_first" (b4 ar))
noncomputable def oU (ns : List Int) : ST :=
 (bX (.name "_law_k") (dB (ai (av cw (aE (bS ns) (ai (ae "_law_cells") ar)) (aw (.int 1))) ar)) (aq (cZ (aL (av bF (ae "_law_k") (ae "_law_half"))) (aq (bf "_law_first" (aE (sp__law_asked ns) (ai (ae "_law_script") (ai (ae "_law_book") (ai (ae "_law_paths_here") (ai (aw (.int 1)) ar))))))
 (aq (cZ (ip (aL (aE (sp__law_told ns) (ai (ae "_law_book") (ai (ae "_law_first") ar))))) (aq (bA (aw (.bool false)))
 au) au)
 au)) au)
 (aq (cZ (fg (aL (av lQ (ae "_law_k") (aE (bS ns) (ai (ae "_law_cells") ar)))) (fg (aL (av bF (av bP (av (aG ns) (ae "_law_cells") (ae "_law_k")) (aw (.int 5))) (aw (.int 0)))) tT)) (aq (bD (aE (sp__law_joins ns) (ai (ae "_law_book") (ai (av (aG ns) (ae "_law_cells") (ae "_law_k")) ar))))
 au) (aq (cZ (aL (av lQ (ae "_law_k") (aE (bS ns) (ai (ae "_law_cells") ar)))) (aq (bD (aE (sp__law_grows ns) (ai (ae "_law_book") (ai (av (aG ns) (ae "_law_cells") (ae "_law_k")) (ai (ae "_law_paths_here") ar)))))
 au) au)
 au))
 au)))
noncomputable def oT (ns : List Int) : ST :=
 (bf "_law_kept" (cT ["_law_book"] (.name "_law_k") (dB (ai (aU "many" (sp_many ns) (ae "_law_book") ar) ar)) tT (aU "tree" (sp_tree ns) (ae "_law_book") (ai (ae "_law_k") ar))))
noncomputable def oS (ns : List Int) : ST :=
 (cZ (nd (ip (aL (aE (sp__law_told ns) (ai (ae "_law_book") (ai (ae "_law_first") ar))))) (nd (ip (aL (aE (sp__law_told ns) (ai (ae "_law_book") (ai (aE (sp__law_asked ns) (ai (ae "_law_script") (ai (ae "_law_book") (ai (ae "_law_paths_here") (ai (aw (.int 7)) ar))))) ar))))) tF)) (aq (bA (aw (.bool false)))
 au) au)
noncomputable def oR (ns : List Int) : ST :=
 (bA (av qP (cT ["_law_book"] (.name "_law_k") (dB (ai (aU "many" (sp_many ns) (ae "_law_book") ar) ar)) tT (aU "tree" (sp_tree ns) (ae "_law_book") (ai (ae "_law_k") ar))) (ae "_law_kept")))
noncomputable def o0 (ns : List Int) : ST := (aq (oZ ns) (aq (oY ns) (aq (oX ns) (aq (oW ns) (aq (oV ns) (aq (oU ns) (aq (oT ns) (aq (oS ns) (aq (oR ns) au)))))))))
theorem wM {C : Cx} (G : Gl C Hd.vw) (hz : C.held = none)  {bk N : Addr} {mN : Str → Option Value} (B : Bk C bk N mN) (h___init__ : MtAt C mN 0 "__init__" (sp___init__ C.ns)) (h__law_cell_at : FnAt C 0 "_law_cell_at" (sp__law_cell_at C.ns)) (h__law_paths : FnAt C 1 "_law_paths" (sp__law_paths C.ns)) (h__law_asked : FnAt C 1 "_law_asked" (sp__law_asked C.ns)) (h__law_told : FnAt C 4 "_law_told" (sp__law_told C.ns)) (h__law_joins : FnAt C 7 "_law_joins" (sp__law_joins C.ns)) (h__law_grows : FnAt C 5 "_law_grows" (sp__law_grows C.ns)) (h_many : MtAt C mN 0 "many" (sp_many C.ns)) (h_tree : MtAt C mN 1 "tree" (sp_tree C.ns)) : HS C (aR Hd.vw 35) 8 (bi Hd.vw 35) (o0 C.ns) :=
 (ag (aF (.inr rfl) (vh G.ok B h___init__ (by decide) rfl) (fun _ _ => rfl))
 (ag (aF (.inl rfl) (aB G h__law_paths (by decide) rfl rfl (af (aB G h__law_cell_at (by decide) rfl rfl (af (ac rfl rfl) (af aD ak rfl) rfl) rfl) ak rfl) rfl) (fun _ _ => rfl))
 (ag (aF (.inl rfl) (r5 G.ok (ac rfl rfl) (lx aD) (lx aD)) (fun _ _ => rfl))
 (ag (aF (.inl rfl) (aM bE (aB G h__law_cell_at (by decide) rfl rfl (af (ac rfl rfl) (af aD ak rfl) rfl) rfl) (aM cb (co G rfl (af (ac rfl rfl) ak rfl) rfl) aD)) (fun _ _ => rfl))
 (ag (aF (.inl rfl) (br ak) (fun _ _ => rfl))
 (ag (bc (aO rfl) (gN G hz rfl (af (aM cb (co G rfl (af (ac rfl rfl) ak rfl) rfl) aD) ak rfl) rfl) (ag (aN (aX bQ (ac rfl rfl) (ac rfl rfl) rfl) (ag (aF (.inl rfl) (aB G h__law_asked (by decide) rfl rfl (af (ac rfl rfl) (af (aT rfl rfl) (af (ac rfl rfl) (af aD ak rfl) rfl) rfl) rfl) rfl) (fun _ _ => rfl))
 (ag (aN (dc (ct (aB G h__law_told (by decide) rfl rfl (af (aT rfl rfl) (af (ac rfl rfl) ak rfl) rfl) rfl) (fun _ _ => rfl))) (ag (aK bI)
 am) am)
 am)) am)
 (ag (aN (bM (cv (aX oE (ac rfl rfl) (co G rfl (af (ac rfl rfl) ak rfl) rfl) rfl) (cv (aX bQ (aM bE (aP G (ac rfl rfl) (ac rfl rfl) rfl) aD) aD rfl) cX))) (ag (a8 (aB G h__law_joins (by decide) rfl rfl (af (aT rfl rfl) (af (aP G (ac rfl rfl) (ac rfl rfl) rfl) ak rfl) rfl) rfl) (fun _ _ => rfl))
 am) (ag (aN (aX oE (ac rfl rfl) (co G rfl (af (ac rfl rfl) ak rfl) rfl) rfl) (ag (a8 (aB G h__law_grows (by decide) rfl rfl (af (aT rfl rfl) (af (aP G (ac rfl rfl) (ac rfl rfl) rfl) (af (ac rfl rfl) ak rfl) rfl) rfl) rfl) (fun _ _ => rfl))
 am) am)
 am))
 am)) (fun _ _ => rfl))
 (ag (b6 (CompOk.of rfl) (gN G hz rfl (af (aI G.ok B h_many (by decide) c0 (aT rfl rfl) ak rfl (fun _ => rfl) rfl (by decide)) ak rfl) rfl) (aO rfl) dI (aI G.ok B h_tree (by decide) cC (aT rfl rfl) (af (ac rfl rfl) ak rfl) rfl (fun _ => rfl) rfl (by decide)) (fun _ _ => rfl) rfl (b0 rfl rfl rfl))
 (ag (aN (bM (cr (dc (ct (aB G h__law_told (by decide) rfl rfl (af (aT rfl rfl) (af (ac rfl rfl) ak rfl) rfl) rfl) (fun _ _ => rfl))) (cr (dc (ct (aB G h__law_told (by decide) rfl rfl (af (aT rfl rfl) (af (aB G h__law_asked (by decide) rfl rfl (af (ac rfl rfl) (af (aT rfl rfl) (af (ac rfl rfl) (af aD ak rfl) rfl) rfl) rfl) rfl) ak rfl) rfl) rfl) (fun _ _ => rfl))) dq))) (ag (aK bI)
 am) am)
 (ag (aK (r6 (qX G.ok) (ff (CompOk.of rfl) (gN G hz rfl (af (aI G.ok B h_many (by decide) c0 (aT rfl rfl) ak rfl (fun _ => rfl) rfl (by decide)) ak rfl) rfl) (aO rfl) dI (aI G.ok B h_tree (by decide) cC (aT rfl rfl) (af (ac rfl rfl) ak rfl) rfl (fun _ => rfl) rfl (by decide)) (fun _ _ => rfl)) (ac rfl rfl) rfl))
 am)))))))))
theorem wr {C : Cx} (G : Gl C Hd.vw) (hz : C.held = none)  {bk N : Addr} {mN : Str → Option Value} (B : Bk C bk N mN) (h___init__ : MtAt C mN 0 "__init__" (sp___init__ C.ns)) (h__law_cell_at : FnAt C 0 "_law_cell_at" (sp__law_cell_at C.ns)) (h__law_paths : FnAt C 1 "_law_paths" (sp__law_paths C.ns)) (h__law_asked : FnAt C 1 "_law_asked" (sp__law_asked C.ns)) (h__law_told : FnAt C 4 "_law_told" (sp__law_told C.ns)) (h__law_joins : FnAt C 7 "_law_joins" (sp__law_joins C.ns)) (h__law_grows : FnAt C 5 "_law_grows" (sp__law_grows C.ns)) (h_many : MtAt C mN 0 "many" (sp_many C.ns)) (h_tree : MtAt C mN 1 "tree" (sp_tree C.ns)) (hspec : ∀ vs σ Q, kw C.ns vs σ Q → vs.length = 1 ∧ o0 C.ns (aC ["_law_script"] vs aH) σ (fin Q)) : FnAt C 8 "law" (kw C.ns) :=
 FnAt.mk (xs := ["_law_script"]) G 23 35 rfl rfl rfl rfl rfl (fun ws pm code doc h => by
  obtain ⟨w0, rfl⟩ := jC h
  rfl) rfl (wM G hz  B h___init__ h__law_cell_at h__law_paths h__law_asked h__law_told h__law_joins h__law_grows h_many h_tree) hspec
end Mine
end
noncomputable section
set_option maxHeartbeats 1000000
namespace Mine
open PySem PySem.W PyProof.Rows PySem.Calls
section
variable {K : List Str} {σ σ' σ'' : ah} {b t mo : Addr} {ads : List Addr} {ts : List (List (Str × V))} {ps : List (List Int)} {Q : V → ah → Prop}
theorem BookAt.grow (B : BookAt K σ b t mo ads ts ps) (g : Grow σ σ') : BookAt K σ' b t mo ads ts ps :=
 ⟨let ⟨dx, h1, h2⟩ := B.obj; ⟨dx, g _ _ h1, g _ _ h2⟩, g _ _ B.tr, g _ _ B.md, B.ne, B.len, B.lenP, fun i d e => let ⟨kvs, ep, h1, h2⟩ := B.at_ i d e; ⟨kvs, ep, h1, g _ _ h2⟩, B.un, B.tree, B.ord⟩
theorem ll {σ : ah} {b dx t : Addr} {x : String} {fs : List (String × V)} {Q : V → ah → Prop} (h1 : σ b = some (.inst dx)) (h2 : σ dx = some (.ns fs)) (h3 : fs.lookup x = some (.ref t)) : ln x (.ref b) σ Q = Q (.ref t) σ := by
 refine propext ⟨fun h => ?_, fun q => ⟨b, dx, fs, t, rfl, h1, h2, h3, q⟩⟩
 obtain ⟨a, dx', fs', t', e, g1, g2, g3, q⟩ := h
 cases e
 rw [h1] at g1; cases g1
 rw [h2] at g2; cases g2
 rw [h3] at g3; cases g3
 exact q
theorem cV (B : BookAt K σ b t mo ads ts ps) : ln "trees" (.ref b) σ Q = Q (.ref t) σ := let ⟨dx, h1, h2⟩ := B.obj; ll h1 h2 (by simp [List.lookup])
theorem lm (B : BookAt K σ b t mo ads ts ps) : ln "made_of" (.ref b) σ Q = Q (.ref mo) σ := let ⟨dx, h1, h2⟩ := B.obj; ll h1 h2 (by simp [List.lookup])
theorem ba (B : BookAt K σ b t mo ads ts ps) {f : String} (h1 : (f == "made_of") = false) (h2 : (f == "trees") = false) : rq f (.ref b) σ = True := by
 obtain ⟨dx, h4, h5⟩ := B.obj
 exact eq_true ⟨b, dx, _, rfl, h4, h5, by simp [List.lookup, h1, h2]⟩
theorem BookAt.treeAt (B : BookAt K σ b t mo ads ts ps) {n : Nat} {kvs : List (Str × V)} (h : ts[n]? = some kvs) : ∃ d ep, ads[n]? = some d ∧ σ d = some (.dict kvs ep) := by
 have hlt : n < ads.length := by rw [B.len]; exact (List.getElem?_eq_some_iff.mp h).1
 obtain ⟨kvs', ep, h1, h2⟩ := B.at_ n _ (List.getElem?_eq_getElem hlt)
 rw [h] at h1; cases h1
 exact ⟨_, ep, List.getElem?_eq_getElem hlt, h2⟩
theorem BookAt.itemT (B : BookAt K σ b t mo ads ts ps) {n : Int} {kvs : List (Str × V)} {ns : List Int} (h0 : 0 ≤ n) (h : ts[n.toNat]? = some kvs) (q : ∀ d ep, σ d = some (.dict kvs ep) → Q (.ref d) σ) : aG ns (.ref t) (.int n) σ Q := by
 obtain ⟨d, ep, h1, h2⟩ := B.treeAt h
 exact bo B.tr h0 (by rw [List.getElem?_map, h1]; rfl) (q d ep h2)
theorem BookAt.itemM (B : BookAt K σ b t mo ads ts ps) {n : Int} {l : List Int} {ns : List Int} (h0 : 0 ≤ n) (h : ps[n.toNat]? = some l) (q : Q (.tup (l.map .int)) σ) : aG ns (.ref mo) (.int n) σ Q :=
 bo B.md h0 (by unfold gV; rw [List.getElem?_map, h]; rfl) q
@[simp] theorem xU {i : Int} : b9 [.int i, .ty "bool"] σ Q = Q (.bool false) σ := by simp [b9, onVT, on2, on1, isT, Mine.tQ]
theorem rf (B : BookAt K σ b t mo ads ts ps) {ns : List Int} : bS ns [.ref t] σ Q = Q (.int ts.length) σ := by rw [bT B.tr, List.length_map, B.len]
theorem Keep.grow {S : List Addr} (h : Keep S σ σ') (g : Grow σ' σ'') : Keep S σ σ'' := fun b o e n => g b o (h b o e n)
theorem Grow.keep {S : List Addr} (g : Grow σ σ') (h : Keep S σ' σ'') : Keep S σ σ'' := fun b o e n => h b o (g b o e) n
end
theorem uc (ns : List Int) : ∀ vs σ Q, sp_need ns vs σ Q → vs.length = 2 ∧ lr ns (aC ["self", "number"] vs aH) σ (fin Q) := by
 rintro vs σ Q ⟨K, b, t, mo, ads, ts, ps, n, rfl, B, h0, h1, q⟩
 refine ⟨rfl, ?_⟩
 unfold lr
 rw [aj]
 simp [mM, cV B, rf B, h0, h1]
 exact q
theorem ud (ns : List Int) : ∀ vs σ Q, sp_many ns vs σ Q → vs.length = 1 ∧ ls ns (aC ["self"] vs aH) σ (fin Q) := by
 rintro vs σ Q ⟨K, b, t, mo, ads, ts, ps, rfl, B, q⟩
 refine ⟨rfl, ?_⟩
 unfold ls
 rw [aj]
 simp [mO, cV B, rf B]
 exact q
theorem eV {ns : List Int} {K : List Str} {σ : ah} {b t mo : Addr} {ads : List Addr} {ts : List (List (Str × V))} {ps : List (List Int)} {Q : V → ah → Prop} (B : BookAt K σ b t mo ads ts ps) {n : Int} (h0 : 0 ≤ n) (h1 : n < ts.length) (q : Q .none σ) : sp_need ns [.ref b, .int n] σ Q := ⟨K, b, t, mo, ads, ts, ps, n, rfl, B, h0, h1, q⟩
theorem pq (ns : List Int) : ∀ vs σ Q, sp_parents ns vs σ Q → vs.length = 2 ∧ e0 ns (aC ["self", "number"] vs aH) σ (fin Q) := by
 rintro vs σ Q ⟨K, b, t, mo, ads, ts, ps, n, l, rfl, B, h0, h, q⟩
 refine ⟨rfl, ?_⟩
 have h1 : n < ts.length := by
  have := (List.getElem?_eq_some_iff.mp h).1
  have := B.lenP
  omega
 unfold e0
 rw [aj]
 simp [hG, ba B]
 refine eV B h0 h1 ?_
 rw [aj]
 simp [gZ, lm B]
 exact B.itemM h0 h q
theorem ue (ns : List Int) : ∀ vs σ Q, sp___init__ ns vs σ Q → vs.length = 1 ∧ dH ns (aC ["self"] vs aH) σ (fin Q) := by
 rintro vs σ Q ⟨a, dx, rfl, ha, hd, q⟩
 refine ⟨rfl, ?_⟩
 unfold dH
 rw [aj]
 simp [gv]
 intro d0 ep hd0 t ht
 have ht0 : t ≠ d0 := by rintro rfl; rw [an] at ht; cases ht
 rw [az ht0] at ht
 have ne : ∀ {x y : Addr} {o : AObj}, σ x = some o → σ y = none → x ≠ y := by rintro x y o h1 h2 rfl; rw [h1] at h2; cases h2
 refine lI (a := a) (dx := dx) (fs := []) ?_ ?_ (by simp) ?_
 ·rw [az (ne ha ht), az (ne ha hd0)]; exact ha
 ·rw [az (ne hd ht), az (ne hd hd0)]; exact hd
 rw [aj]
 simp [gu]
 intro mo hmo
 have hda : dx ≠ a := by rintro rfl; rw [ha] at hd; cases hd
 have m1 : mo ≠ dx := by rintro rfl; rw [an] at hmo; cases hmo
 rw [az m1] at hmo
 have m2 : mo ≠ t := by rintro rfl; rw [an] at hmo; cases hmo
 rw [az m2] at hmo
 have m3 : mo ≠ d0 := by rintro rfl; rw [an] at hmo; cases hmo
 rw [az m3] at hmo
 refine lI (a := a) (dx := dx) ?_ ?_ ?_ ?_ (fs := [("trees", .ref t)])
 ·rw [az (ne ha hmo), az (Ne.symm hda), az (ne ha ht), az (ne ha hd0)]; exact ha
 ·rw [az (Ne.symm m1), an]
 ·simp
 ·refine q t mo d0 ep _ ?_ ?_ ?_ ?_ ?_ (Ne.symm m2) ht hmo hd0
  ·intro x o hx hn
   have hxd : x ≠ dx := by simpa using hn
   rw [az hxd, az (ne hx hmo), az hxd, az (ne hx ht), az (ne hx hd0)]; exact hx
  ·rw [an]
  ·rw [az (ne hd ht).symm, az (Ne.symm m2), az (ne hd ht).symm, an]
  ·rw [az m1, an]
  ·rw [az (ne hd hd0).symm, az (Ne.symm m3), az (ne hd hd0).symm, az (Ne.symm ht0), an]
theorem Grow.over {σ σ' : ah} {b : Addr} {o : AObj} (g : Grow σ σ') (hb : σ b = Option.none) : Grow σ (Mine.aY σ' b o) := fun c o' e => by
 rw [az (by rintro rfl; rw [hb] at e; cases e)]; exact g c o' e
theorem gI {kvs : List (Str × V)} {i : Nat} {v : V} (h : (kvs.map fun q => V.str q.1)[i]? = some v) : ∃ y, (keysOf kvs)[i]? = some y ∧ v = .str y := by
 rw [List.getElem?_map] at h
 obtain ⟨q, hq, rfl⟩ := Option.map_eq_some_iff.mp h
 exact ⟨q.1, by unfold keysOf; rw [List.getElem?_map, hq]; rfl, rfl⟩
theorem qK {ps : List (List Int)} {l : List Int} (o : Ord ps) (hz : ps.length < 60) (h2 : l.length ≤ 2) (h3 : l ≠ []) (hl : ∀ p ∈ l, 0 ≤ p ∧ p < (ps.length : Int)) : Ord (ps ++ [l]) := by
 have at_ : ∀ (k : Nat) m, (ps ++ [l])[k]? = some m → ps[k]? = some m ∨ (k = ps.length ∧ m = l) := fun k m e => by
  rcases Nat.lt_or_ge k ps.length with hi | hi
  ·rw [List.getElem?_append_left hi] at e; exact .inl e
  ·rw [List.getElem?_append_right hi] at e
   have hi2 : k - ps.length = 0 := by
    have := (List.getElem?_eq_some_iff.mp e).1
    simpa using this
   rw [hi2] at e
   simp at e
   exact .inr ⟨Nat.le_antisymm (Nat.le_of_sub_eq_zero hi2) hi, e.symm⟩
 refine ⟨fun k m e => ?_, fun k m e => ?_, fun k m e hk => ?_, by rw [List.length_append]; exact hz, by rw [List.length_append]; exact Nat.succ_pos _⟩
 ·rcases at_ k m e with h | ⟨rfl, rfl⟩
  ·exact o.two k m h
  ·exact h2
 ·rcases at_ k m e with h | ⟨rfl, rfl⟩
  ·exact o.lt k m h
  ·exact hl
 ·rcases at_ k m e with h | ⟨rfl, rfl⟩
  ·exact o.some k m h hk
  ·exact h3
theorem sy {K : List Str} {σ : ah} {b t mo : Addr} {ads : List Addr} {ts : List (List (Str × V))} {ps : List (List Int)} (B : BookAt K σ b t mo ads ts ps) {d : Addr} {kvs : List (Str × V)} {ep : Nat} {l : List Int} (hd : σ d = some (.dict kvs ep)) (ht : Inn K kvs) (hz : ts.length < 60) (hl2 : l.length ≤ 2) (hl3 : l ≠ []) (hl : ∀ p ∈ l, 0 ≤ p ∧ p < (ts.length : Int)) :
  Keep [t, mo] σ (aY (aY σ t (.list (ads.map .ref ++ [.ref d]))) mo (.list (gV ps ++ [.tup (l.map .int)]))) ∧ BookAt K (aY (aY σ t (.list (ads.map .ref ++ [.ref d]))) mo (.list (gV ps ++ [.tup (l.map .int)]))) b t mo (ads ++ [d]) (ts ++ [kvs]) (ps ++ [l]) := by
 have K : Keep [t, mo] σ (aY (aY σ t (.list (ads.map .ref ++ [.ref d]))) mo (.list (gV ps ++ [.tup (l.map .int)]))) := by
  intro x o e n
  simp at n
  rw [az n.2, az n.1]; exact e
 obtain ⟨dx, h1, h2⟩ := B.obj
 have off : ∀ {x : Addr} {o : AObj}, σ x = some o → (∀ xs, o ≠ .list xs) → x ∉ [t, mo] := by
  intro x o e ho hm
  simp at hm
  rcases hm with rfl | rfl
  ·rw [B.tr] at e; cases e; exact ho _ rfl
  ·rw [B.md] at e; cases e; exact ho _ rfl
 refine ⟨K, ⟨⟨dx, K _ _ h1 (off h1 (by simp)), K _ _ h2 (off h2 (by simp))⟩, ?_, ?_, B.ne, by simp [B.len], by simp [B.lenP], fun i a e => ?_, B.un, fun k hk => ?_, qK B.ord (by rw [B.lenP]; exact hz) hl2 hl3 (by rw [B.lenP]; exact hl)⟩⟩
 ·rw [az B.ne, an]; simp
 ·rw [an]; simp [gV]
 ·rcases Nat.lt_or_ge i ads.length with hi | hi
  ·rw [List.getElem?_append_left hi] at e
   obtain ⟨kv, ep', g1, g2⟩ := B.at_ i a e
   exact ⟨kv, ep', by rw [List.getElem?_append_left (by rw [← B.len]; exact hi)]; exact g1, K _ _ g2 (off g2 (by simp))⟩
  ·rw [List.getElem?_append_right hi] at e
   have hi2 : i - ads.length = 0 := by
    have := (List.getElem?_eq_some_iff.mp e).1
    simpa using this
   rw [hi2] at e
   simp at e
   subst e
   exact ⟨kvs, ep, by rw [List.getElem?_append_right (by rw [← B.len]; exact hi), ← B.len, hi2]; rfl, K _ _ hd (off hd (by simp))⟩
 ·rcases List.mem_append.mp hk with hk | hk
  ·exact B.tree _ hk
  ·simp at hk; subst hk; exact ht
theorem nq (ns : List Int) : ∀ vs σ Q, sp_put_down ns vs σ Q → vs.length = 3 ∧ dE ns (aC ["self", "tree", "parents"] vs aH) σ (fin Q) := by
 rintro vs σ Q ⟨K, b, t, mo, ads, ts, ps, d, kvs, ep, l, rfl, B, hd, ht, hz, hl2, hl3, hl, q⟩
 refine ⟨rfl, ?_⟩
 obtain ⟨K, B'⟩ := sy B hd ht hz hl2 hl3 hl
 obtain ⟨dx, h1, h2⟩ := B.obj
 have bt : b ≠ t := by rintro rfl; rw [B.tr] at h1; cases h1
 have dt : dx ≠ t := by rintro rfl; rw [B.tr] at h2; cases h2
 have h1' : aY σ t (.list (ads.map .ref ++ [.ref d])) b = some (.inst dx) := by rw [az bt]; exact h1
 have h2' : aY σ t (.list (ads.map .ref ++ [.ref d])) dx = some (.ns [("made_of", .ref mo), ("trees", .ref t)]) := by rw [az dt]; exact h2
 have h3' : aY σ t (.list (ads.map .ref ++ [.ref d])) mo = some (.list (gV ps)) := by rw [az (Ne.symm B.ne)]; exact B.md
 have len := B.len
 have lenP := B.lenP
 unfold dE
 rw [aj]
 simp [gj, cV B, ck B.tr]
 refine b5 B.tr (by rw [List.length_map]; omega) ?_
 rw [aj]
 simp [gi, ll h1' h2' (x := "made_of") (t := mo) (by simp [List.lookup]), ck h3']
 refine b5 h3' (by simp [gV]; omega) ?_
 rw [aj]
 simp [gh, cV B', rf B']
 exact q _ K B'
@[simp] theorem vZ (ns : List Int) {p : Str × Str} {σ : ah} {Q : V → ah → Prop} (q : Q (.str p.1) σ) : aG ns (pC p) (.int 1) σ Q := ⟨by show 3 < 16777217; decide, 1, _, rfl, rfl, q⟩
theorem v4 (ns : List Int) {p : Str × Str} {σ : ah} {Q : V → ah → Prop} (q : Q (.str (Str.ofString "put")) σ) : aG ns (pC p) (.int 0) σ Q := ⟨by show 3 < 16777217; decide, 0, _, rfl, rfl, q⟩
theorem vY (ns : List Int) {p : Str × Str} {σ : ah} {Q : V → ah → Prop} (q : Q (.str p.2) σ) : aG ns (pC p) (.int 2) σ Q := ⟨by show 3 < 16777217; decide, 2, _, rfl, rfl, q⟩
theorem sS : Str.ofString "put" ≠ Str.ofString "cut" := by decide
theorem Anc.le {ps : List (List Int)} (ho : ∀ (k : Nat) l, ps[k]? = some l → ∀ p ∈ l, 0 ≤ p ∧ p < (k : Int)) {n x : Int} (h : Anc ps n x) (h0 : 0 ≤ n) : 0 ≤ x ∧ x ≤ n := by
 induction h with
 | self n => exact ⟨h0, Int.le_refl _⟩
 | up h1 h2 _ ih =>
  have := ho _ _ h1 _ h2
  have := ih this.1
  omega
structure Found (ps : List (List Int)) (n : Int) (i : Nat) (kvs : List (Int × V)) : Prop where
 anc : ∀ x ∈ kvs.map (·.1), Anc ps n x
 self : n ∈ kvs.map (·.1)
 up : ∀ x ∈ kvs.map (·.1), n - i < x → ∀ l, ps[x.toNat]? = some l → ∀ p ∈ l, p ∈ kvs.map (·.1)
 nodup : (kvs.map (·.1)).Nodup
theorem Found.all {ps : List (List Int)} {n : Int} {i : Nat} {kvs : List (Int × V)} (F : Found ps n i kvs) (ho : ∀ (k : Nat) l, ps[k]? = some l → ∀ p ∈ l, 0 ≤ p ∧ p < (k : Int)) (h0 : 0 ≤ n) (hi : n < i) : ∀ x, x ∈ kvs.map (·.1) ↔ Anc ps n x := by
 intro x
 refine ⟨F.anc x, fun h => ?_⟩
 have key : ∀ {y x : Int}, Anc ps y x → y ∈ kvs.map (·.1) → x ∈ kvs.map (·.1) := by
  intro y x h
  induction h with
  | self _ => exact id
  | up h1 h2 _ ih =>
   intro hy
   have := ((F.anc _ hy).le ho h0).1
   exact ih (F.up _ hy (by omega) _ h1 _ h2)
 exact key h F.self
theorem cM : ∀ {n : Nat} {l : List Int}, l.Nodup → (∀ x ∈ l, 0 ≤ x ∧ x < (n : Int)) → l.length ≤ n
 | 0, [], _, _ => Nat.le_refl _
 | 0, x :: r, _, h => by have := h x (.head _); omega
 | n + 1, l, hn, h => by
  by_cases hm : (n : Int) ∈ l
  ·have h1 := cM (n := n) (l := l.erase n) (hn.erase _) fun x hx => by
    have h2 := (hn.mem_erase_iff).mp hx
    have h3 := h x h2.2
    have h4 := h2.1
    omega
   rw [List.length_erase_of_mem hm] at h1
   omega
  ·have h1 := cM (n := n) (l := l) hn fun x hx => by
    have h3 := h x hx
    have h4 : x ≠ n := fun e => hm (e ▸ hx)
    omega
   omega
theorem sK {l : List Int} (h : l.Nodup) : (jE l).Pairwise (· < ·) := by
 have h1 := gW l
 have h2 : (jE l).Nodup := (eX l).nodup_iff.mpr h
 rw [List.nodup_iff_pairwise_ne] at h2
 exact (h1.and h2).imp fun ⟨a, b⟩ => by omega
end Mine
end
noncomputable section
set_option maxRecDepth 10000
namespace Mine
open PySem PySem.W PyProof.Rows PySem.Calls
@[simp] theorem xG {ns : List Int} {σ : ah} {Q : V → ah → Prop} {x : Str} : sp_is_part ns [.str x] σ Q = (x.length ≤ 1000 ∧ Q (.bool (bN x)) σ) := propext ⟨fun ⟨_, e, h, q⟩ => by cases e; exact ⟨h, q⟩, fun h => ⟨_, rfl, h.1, h.2⟩⟩
@[simp] theorem wT {ns : List Int} {σ : ah} {Q : V → ah → Prop} {k : Int} : sp__law_cell_at ns [.script, .int k] σ Q = (0 ≤ k ∧ Q (.int (cell ns k)) σ) := propext ⟨fun ⟨_, e, h, q⟩ => by cases e; exact ⟨h, q⟩, fun h => ⟨_, rfl, h.1, h.2⟩⟩
theorem pn {x : Str} {i : Nat} {v : V} (h : (fj x)[i]? = some v) : ∃ c, (cl x)[i]? = some c ∧ v = .str ⟨#[c]⟩ := by
 unfold fj at h
 rw [List.getElem?_map] at h
 obtain ⟨c, h1, rfl⟩ := Option.map_eq_some_iff.mp h
 exact ⟨c, h1, rfl⟩
theorem pj (x : Str) : (fj x).length = (cl x).length := by simp [fj]
theorem jG {f : Nat → Bool} {l : List Nat} {i : Nat} {c : Nat} (h : (l.take i).all f = true) (hc : l[i]? = some c) (hf : f c = true) : (l.take (i + 1)).all f = true := by
 rw [List.take_add_one, hc, List.all_append, h]; simp [hf]
theorem vR (ns : List Int) : ∀ vs σ Q, sp_is_part ns vs σ Q → vs.length = 1 ∧ e7 ns (aC ["text"] vs aH) σ (fin Q) := by
 rintro vs σ Q ⟨x, rfl, hx, q⟩
 refine ⟨rfl, ?_⟩
 have loop : (x ≠ Str.ofString "." ∧ x ≠ Str.ofString ".." ∧ 1 ≤ x.length ∧ x.length ≤ 12) → d9 ns (put aH "text" (.str x)) σ (nI (aq (d8 ns) au) (fin Q)) := by
  intro hg
  simp [d9]
  refine aZ (fun i m σ' => σ' = σ ∧ ((cl x).take i).all (fun c => Txt.contains tX ⟨#[c]⟩) = true) (fun u m σ' => σ' = σ ∧ u = .bool false ∧ bN x = false) (fun _ _ _ _ => trivial) _ ?_ ?_ ?_ _ _ ⟨rfl, by simp⟩
  ·rintro i v m σ' Q' hv ⟨rfl, h⟩ n1 n2 n3
   obtain ⟨c, hc, rfl⟩ := pn hv
   refine ⟨_, rfl, ?_⟩
   simp [aj]
   split
   ·rename_i e; exact n1 _ _ ⟨rfl, jG h hc e⟩
   ·rename_i e
    refine n3 _ _ _ ⟨rfl, rfl, ?_⟩
    unfold bN
    rw [Bool.and_eq_false_iff]
    right
    rw [List.all_eq_false]
    exact ⟨c, List.mem_of_getElem? hc, by simpa [tX] using e⟩
  ·rintro m σ' ⟨rfl, h⟩
   rw [pj, List.take_length] at h
   have : bN x = true := by unfold bN; rw [Bool.and_eq_true]; exact ⟨decide_eq_true hg, h⟩
   rw [this] at q
   simpa [aj, d8] using q
  ·rintro u m σ' ⟨rfl, rfl, h⟩
   rw [h] at q
   simpa using q
 have bad : ¬ (x ≠ Str.ofString "." ∧ x ≠ Str.ofString ".." ∧ 1 ≤ x.length ∧ x.length ≤ 12) → bN x = false := fun h => by
  unfold bN; rw [decide_eq_false h]; rfl
 unfold e7
 rw [aj]
 simp [hZ, aj]
 by_cases h1 : x = Str.ofString "."
 ·rw [bad (by simp [h1])] at q; simpa [h1] using q
 by_cases h2 : x = Str.ofString ".."
 ·rw [bad (by simp [h2])] at q; simpa [h1, h2] using q
 simp [h1, h2]
 refine ⟨by omega, ?_⟩
 by_cases h3 : 1 ≤ x.length
 ·by_cases h4 : x.length ≤ 12
  ·have h3' : (1 : Int) ≤ x.length := by omega
   have h4' : (x.length : Int) ≤ 12 := by omega
   simp [h3', h4']
   exact loop ⟨h1, h2, h3, h4⟩
  ·have h3' : (1 : Int) ≤ x.length := by omega
   have h4' : ¬ (x.length : Int) ≤ 12 := by omega
   rw [bad (by omega)] at q
   simpa [h3', h4', aj] using q
 ·have h3' : ¬ (1 : Int) ≤ x.length := by omega
  rw [bad (by omega)] at q
  simpa [h3', aj] using q
theorem qH {x p : Str} (hp : p ∈ Txt.split x (Str.ofString "/")) : p.length ≤ x.length := by
 have h0 := PyProof.Rows.split_pos x (Str.ofString "/")
 have h := PyProof.Rows.split_weight x (Str.ofString "/") (by rw [dQ]; exact Nat.le_refl 1)
 have key : ∀ (l : List Str), p ∈ l → p.length ≤ (l.map (·.length)).sum := by
  intro l
  induction l with
  | nil => intro h; cases h
  | cons y r ih =>
   intro h
   rw [List.map_cons, List.sum_cons]
   rcases List.mem_cons.mp h with e | h
   ·rw [e]; exact Nat.le_add_right _ _
   ·exact Nat.le_trans (ih h) (Nat.le_add_left _ _)
 exact Nat.le_of_succ_le_succ (Nat.le_trans (Nat.add_le_add (key _ hp) h0) h)
theorem ub (ns : List Int) : ∀ vs σ Q, sp_is_path ns vs σ Q → vs.length = 1 ∧ e6 ns (aC ["text"] vs aH) σ (fin Q) := by
 rintro vs σ Q ⟨x, rfl, hx, q⟩
 refine ⟨rfl, ?_⟩
 unfold e6
 rw [aj]
 simp [hY, dQ]
 refine ⟨by omega, fun a ha => ?_⟩
 replace q := q _ (Grow.refl.upd (o := .list ((Txt.split x (Str.ofString "/")).map .str)) ha)
 have ha' := an σ a (.list ((Txt.split x (Str.ofString "/")).map .str))
 generalize (aY σ a (.list ((Txt.split x (Str.ofString "/")).map .str))) = σ₁ at q ha' ⊢
 show aq _ _ _ _ _
 rw [aj]
 simp [hX, bT ha', aj]
 split
 ·rename_i h
  have : cx x = false := by unfold cx; rw [decide_eq_false (by omega)]; rfl
  rw [this] at q
  exact q
 ·rename_i h
  simp [hW, a7 ha']
  refine aZ (fun i m σ' => σ' = σ₁ ∧ ((Txt.split x (Str.ofString "/")).take i).all bN = true) (fun u m σ' => σ' = σ₁ ∧ u = .bool false ∧ cx x = false) (fun i m σ' h => by rw [h.1]; exact ha') _ ?_ ?_ ?_ _ _ ⟨rfl, by simp⟩
  ·rintro i v m σ' Q' hv ⟨rfl, h⟩ n1 n2 n3
   rw [List.getElem?_map] at hv
   obtain ⟨pt, hp, rfl⟩ := Option.map_eq_some_iff.mp hv
   have hl := qH (List.mem_of_getElem? hp)
   refine ⟨_, rfl, ?_⟩
   simp [aj]
   refine ⟨by omega, ?_⟩
   split
   ·rename_i e
    refine n1 _ _ ⟨rfl, ?_⟩
    rw [List.take_add_one, hp, List.all_append, h]; simp [e]
   ·rename_i e
    refine n3 _ _ _ ⟨rfl, rfl, ?_⟩
    unfold cx
    rw [Bool.and_eq_false_iff]
    right
    rw [List.all_eq_false]
    exact ⟨pt, List.mem_of_getElem? hp, e⟩
  ·rintro m σ' ⟨rfl, h'⟩
   rw [List.length_map, List.take_length] at h'
   have : cx x = true := by unfold cx; rw [h', decide_eq_true (by omega)]; rfl
   rw [this] at q
   simpa [aj, hV] using q
  ·rintro u m σ' ⟨rfl, rfl, h⟩
   rw [h] at q
   simpa using q
theorem vT (ns : List Int) : ∀ vs σ Q, sp_is_beneath ns vs σ Q → vs.length = 2 ∧ cD ns (aC ["path", "upper"] vs aH) σ (fin Q) := by
 rintro vs σ Q ⟨x, y, rfl, hy, q⟩
 refine ⟨rfl, ?_⟩
 unfold cD
 rw [aj]
 simp [ee]
 exact ⟨by rw [dQ]; omega, q⟩
theorem gG {α : Type} [DecidableEq α] : ∀ {l m : List α}, l.Nodup → (∀ x ∈ l, x ∈ m) → l.length ≤ m.length
 | [], _, _, _ => Nat.zero_le _
 | x :: r, m, h, hs => by
  have hx := hs x (List.mem_cons_self ..)
  have h2 := List.nodup_cons.mp h
  have ih := gG (l := r) (m := m.erase x) h2.2 fun y hy => (List.mem_erase_of_ne (by rintro rfl; exact h2.1 hy)).mpr (hs y (List.mem_cons_of_mem _ hy))
  rw [List.length_erase_of_mem hx] at ih
  exact Nat.le_trans (Nat.succ_le_succ ih) (Nat.le_of_eq (Nat.succ_pred_eq_of_pos (List.length_pos_of_mem hx)))
section
variable {K : List Str} {kvs : List (Str × V)} {x : Str} {v : V}
theorem Inn.len (h : Inn K kvs) (hK : Kp K) : kvs.length ≤ 3 := by
 have := gG h.nodup h.sub
 unfold keysOf at this
 rw [List.length_map] at this
 exact Nat.le_trans this hK.few
theorem Inn.nil : Inn K [] := ⟨fun _ h => (nomatch h), fun _ h => (nomatch h), List.nodup_nil⟩
theorem Inn.put {y : Str} (h : Inn K kvs) (hx : x ∈ K) : Inn K (bG kvs x (.str y)) :=
 ⟨fun z hz => ((fW _ _ _ z).mp hz).elim (fun e => e ▸ hx) (h.sub z), fun q hq => (gO hq).elim (fun e => ⟨y, by rw [e]⟩) (h.val q), fi h.nodup⟩
theorem Inn.cut (h : Inn K kvs) : Inn K (io kvs x) :=
 ⟨fun z hz => h.sub z ((pc _ _ z).mp hz).2, fun q hq => h.val q (qk hq), nb h.nodup⟩
end
theorem wF (ns : List Int) {x : Str} {σ : ah} {Q : V → ah → Prop} (q : Q (.str x) σ) : aG ns (sU x) (.int 1) σ Q := ⟨by show 2 < 16777217; decide, 1, _, rfl, rfl, q⟩
theorem wG (ns : List Int) {x : Str} {σ : ah} {Q : V → ah → Prop} (q : Q (.str (Str.ofString "cut")) σ) : aG ns (sU x) (.int 0) σ Q := ⟨by show 2 < 16777217; decide, 0, _, rfl, rfl, q⟩
theorem ug (ns : List Int) : ∀ vs σ Q, sp_done ns vs σ Q → vs.length = 2 ∧ lv ns (aC ["tree", "deed"] vs aH) σ (fin Q) := by
 rintro vs σ Q ⟨K, a, kvs, ep, dd, rfl, ha, hK, ht, hD, q⟩
 refine ⟨rfl, ?_⟩
 have len := ht.len hK
 obtain ⟨p, hp, i1, hc⟩ : ∃ p, p ∈ K ∧ (∀ (Q' : V → ah → Prop) σ', Q' (.str p) σ' → aG ns dd (.int 1) σ' Q') ∧ ((dd = sU p ∧ p ∈ keysOf kvs) ∨ ∃ y, dd = pC (p, y)) := by
  cases hD with
  | put x y h => exact ⟨x, h, fun Q' σ' q => vZ ns (p := (x, y)) q, .inr ⟨y, rfl⟩⟩
  | cut x h hk => exact ⟨x, h, fun Q' σ' q => wF ns q, .inl ⟨rfl, hk⟩⟩
 have pl : p.length ≤ 1000 := Nat.le_trans (hK.len p hp) (by decide)
 unfold lv
 rw [aj]
 simp [mX]
 refine i1 _ _ ?_
 rw [aj]
 simp [mW]
 refine ⟨p, rfl, pl, fun σ₁ g1 => ?_⟩
 simp [hK.ok p hp]
 rw [aj]
 simp [mV]
 have ha1 := g1 _ _ ha
 refine fK ha1 fun b eb hb => ?_
 have hbn := g1.none hb
 have xb := an σ₁ b (.dict kvs eb)
 have g2 : Grow σ (aY σ₁ b (.dict kvs eb)) := g1.upd hb
 have ha2 : aY σ₁ b (.dict kvs eb) a = some (.dict kvs ep) := by rw [az (by rintro rfl; rw [ha1] at hb; cases hb)]; exact ha1
 generalize (aY σ₁ b (.dict kvs eb)) = σ₂ at xb g2 ha2 ⊢
 rw [aj]
 simp [mU]
 rcases hc with ⟨rfl, hin⟩ | ⟨y, rfl⟩
 ·refine wG ns ?_
  simp [aj]
  obtain ⟨v, hv, _⟩ := dL hin
  refine fH xb ?_
  simp [hv, du xb]
  refine lM xb hv fun ep' => ?_
  try simp
  exact q b _ ep' _ (g2.over hbn) hbn (an _ _ _) ht.cut
 ·refine v4 ns ?_
  simp [sS]
  rw [aj]
  simp [mT, cO ha2]
  refine aZ (fun i m σ' => σ' = σ₂ ∧ m "path" = some (.str p) ∧ m "fresh" = some (.ref b) ∧ m "deed" = some (pC (p, y))) (fun _ _ _ => False)
   (fun i m σ' h => by rw [h.1]; exact ha2) _ ?_ ?_ (fun _ _ _ h => h.elim) _ _ ⟨rfl, by simp, by simp, by simp⟩
  ·rintro i v m σ' Q' hv ⟨rfl, hm, hf', hd⟩ n1 n2 n3
   obtain ⟨z, hz, rfl⟩ := gI hv
   have hzk := ht.sub z (List.mem_of_getElem? hz)
   refine ⟨_, rfl, ?_⟩
   simp [aj, hm]
   refine ⟨p, z, rfl, Nat.le_trans (hK.len z hzk) (by decide), ?_⟩
   simp [hK.ben p hp z hzk]
   refine ⟨z, p, rfl, pl, ?_⟩
   simp [hK.ben z hzk p hp]
   exact n1 _ _ ⟨rfl, by simp [hm], by simp [hf'], by simp [hd]⟩
  ·rintro m σ' ⟨rfl, hm, hf', hd⟩
   rw [aQ, aj]
   simp [mS, hd, hf', hm]
   refine vY ns ?_
   refine df xb (Nat.lt_of_le_of_lt len (by decide)) fun ep' => ?_
   rw [aj]
   simp [mR, hf']
   exact q b _ ep' _ (g2.over hbn) hbn (an _ _ _) (ht.put hp)
theorem pz (ns : List Int) : ∀ vs σ Q, sp_changed ns vs σ Q → vs.length = 2 ∧ e9 ns (aC ["tree", "deeds"] vs aH) σ (fin Q) := by
 rintro vs σ Q ⟨K, a, L, kvs, ep, dl, rfl, ha, hL, hd, hK, ht, hp, q⟩
 refine ⟨rfl, ?_⟩
 unfold e9
 rw [aj]
 simp [ik]
 refine fK ha fun b eb hb => ?_
 have xb := an σ b (.dict kvs eb)
 have g2 : Grow σ (aY σ b (.dict kvs eb)) := Grow.refl.upd hb
 have hL2 := g2 _ _ hL
 generalize (aY σ b (.dict kvs eb)) = σ₂ at xb g2 hL2 ⊢
 rw [aj]
 simp [ij, a7 hL2]
 rcases dl with _ | ⟨p, _ | ⟨_, _⟩⟩
 ·refine ⟨hL2, ?_⟩
  rw [aQ, aj]
  simp [eg]
  exact q b kvs eb σ₂ g2 hb xb ht
 ·refine ⟨hL2, _, rfl, ?_⟩
  rw [aj]
  simp
  refine ⟨K, b, kvs, eb, p, rfl, xb, hK, ht, hp p (List.mem_cons_self ..), fun b2 k2 ep2 σ2 g3 hb2 x2 i2 => ?_⟩
  try simp
  refine ⟨g3 _ _ hL2, ?_⟩
  rw [aQ, aj]
  simp [eg]
  exact q b2 k2 ep2 σ2 (g2.trans g3) (g2.none hb2) x2 i2
 ·exact absurd (Nat.le_of_succ_le_succ hd) (Nat.not_succ_le_zero _)
theorem uf (ns : List Int) : ∀ vs σ Q, sp_grow ns vs σ Q → vs.length = 3 ∧ lu ns (aC ["self", "parent", "deeds"] vs aH) σ (fin Q) := by
 rintro vs σ Q ⟨K, b, t, mo, ads, ts, ps, n, L, dl, kvs, rfl, B, h0, h1, h, hL, hd, hp, hz, q⟩
 refine ⟨rfl, ?_⟩
 unfold lu
 rw [aj]
 simp [mQ, ba B]
 refine eV B h0 h1 ?_
 rw [aj]
 simp [mP, ba B, cV B]
 refine B.itemT h0 h fun a ep ha => ?_
 refine ⟨K, a, L, kvs, ep, dl, rfl, ha, hL, hd, B.un, B.tree _ (List.mem_of_getElem? h), hp, fun d k' ep' σ' g hd hd' i' => ?_⟩
 refine ⟨K, b, t, mo, ads, ts, ps, d, k', ep', [n], rfl, B.grow g, hd', i', hz, by simp, by simp, fun p hp => ?_, fun σ'' KK B2 => ?_⟩
 ·simp at hp; subst hp; exact ⟨h0, h1⟩
 ·exact q _ _ _ σ'' (g.keep KK) B2 (by simp)
theorem t8 (ns : List Int) : ∀ vs σ Q, sp_tree ns vs σ Q → vs.length = 2 ∧ lq ns (aC ["self", "number"] vs aH) σ (fin Q) := by
 rintro vs σ Q ⟨K, b, t, mo, ads, ts, ps, n, kvs, rfl, B, h0, h, q⟩
 refine ⟨rfl, ?_⟩
 have h1 : n < ts.length := nE h0 (List.getElem?_eq_some_iff.mp h).1
 unfold lq
 rw [aj]
 simp [mK, ba B]
 refine eV B h0 h1 ?_
 rw [aj]
 simp [mJ, cV B]
 refine B.itemT h0 h fun a ep ha => ?_
 exact fK ha q
end Mine
end
noncomputable section
set_option maxHeartbeats 1000000
namespace Mine
open PySem PySem.W PyProof.Rows PySem.Calls
@[simp] theorem vt {ns : List Int} {vs : List V} {σ : ah} {R : List V → (ah → Prop) → ah → Prop} : gJ ns (.tup vs) σ R = R vs (fun _ => True) σ := rfl
theorem Anc.step {ps : List (List Int)} {n k p : Int} {l : List Int} (h : Anc ps n k) (hl : ps[k.toNat]? = some l) (hp : p ∈ l) : Anc ps n p := by
 induction h with
 | self n => exact .up hl hp (.self p)
 | up h1 h2 _ ih => exact .up h1 h2 (ih hl)
theorem nJ {l : List Int} {i : Nat} {v : V} (h : (l.map V.int)[i]? = some v) : ∃ x, l[i]? = some x ∧ v = .int x := by
 rw [List.getElem?_map] at h
 obtain ⟨x, h1, rfl⟩ := Option.map_eq_some_iff.mp h
 exact ⟨x, h1, rfl⟩
theorem rH (ns : List Int) {K : List Str} {σ : ah} {b t mo : Addr} {ads : List Addr} {ts : List (List (Str × V))} {ps : List (List Int)} {Q : V → ah → Prop} {n : Int} {m : bb} (B : BookAt K σ b t mo ads ts ps) (h0 : 0 ≤ n) (h1 : n < ts.length) (hs : m "self" = some (.ref b)) (hm : m "number" = some (.int n))
  (q : ∀ xs, Eld ps n xs → dK (xs.map .int) σ Q) :
  aq (fR ns) (aq (fQ ns) (aq (fO ns) au)) m σ (fin Q) := by
 have few : ts.length ≤ 60 := B.lenP ▸ B.ord.few
 have ho := B.ord.lt
 rw [aj]
 simp [fR, hm]
 intro f ef hf
 have xf := an σ f (.idict [(n, .bool true)] ef)
 have g0 : Grow σ (aY σ f (.idict [(n, .bool true)] ef)) := Grow.refl.upd hf
 generalize (aY σ f (.idict [(n, .bool true)] ef)) = σ₂ at xf g0 ⊢
 rw [aj]
 simp [fQ, hm, h0]
 refine ⟨by omega, ?_⟩
 refine aZ (fun i m σ' => ∃ kvs ep, σ' f = some (.idict kvs ep) ∧ Found ps n i kvs ∧ Grow σ σ' ∧ m "self" = some (.ref b) ∧ m "found" = some (.ref f)) (fun _ _ _ => False)
  (fun _ _ _ _ => trivial) _ ?_ ?_ (fun _ _ _ h => h.elim) _ _ ⟨_, _, xf, ⟨?_, ?_, ?_, ?_⟩, g0, by simp [hs], by simp⟩
 ·rintro i v m σ' Q' hv ⟨kvs, ep, hk, F, g, hs, hfd⟩ n1 n2 n3
  obtain ⟨hi, rfl⟩ := rJ hv
  have hk0 : 0 ≤ n - i := by omega
  refine ⟨_, rfl, ?_⟩
  simp [aj, hs, hfd]
  refine rs hk ?_
  simp [l5]
  have B' := B.grow g
  have hlt : (n - (i : Int)).toNat < ps.length := by rw [B.lenP]; omega
  split
  ·rename_i hin
   have hin' : (n - (i : Int)) ∈ kvs.map (·.1) := by simpa using hin
   simp [lm B']
   refine B'.itemM hk0 (List.getElem?_eq_getElem hlt) ?_
   have hl : ps[(n - (i : Int)).toNat]? = some ps[(n - (i : Int)).toNat] := List.getElem?_eq_getElem hlt
   generalize ps[(n - (i : Int)).toNat] = l at hl ⊢
   have hlo := ho _ _ hl
   try simp
   refine aZ (fun j m σ'' => ∃ kvs' ep', σ'' f = some (.idict kvs' ep') ∧ Grow σ σ'' ∧ m "self" = some (.ref b) ∧ m "found" = some (.ref f) ∧ (∀ x ∈ kvs'.map (·.1), Anc ps n x) ∧ (∀ x ∈ kvs.map (·.1), x ∈ kvs'.map (·.1)) ∧ (∀ p ∈ l.take j, p ∈ kvs'.map (·.1)) ∧ (∀ x ∈ kvs'.map (·.1), x ∈ kvs.map (·.1) ∨ x ∈ l) ∧ (kvs'.map (·.1)).Nodup)
    (fun _ _ _ => False) (fun _ _ _ _ => trivial) _ ?_ ?_ (fun _ _ _ h => h.elim) _ _ ⟨kvs, ep, hk, g, by simp [hs], by simp [hfd], F.anc, fun _ h => h, by simp, fun _ h => .inl h, F.nodup⟩
   ·rintro j v m σ'' Q'' hv ⟨kvs', ep', hk', g', hs', hf', c1, c2, c3, c4, c5⟩ n1' n2' n3'
    obtain ⟨p, hp, rfl⟩ := nJ hv
    have hpl := List.mem_of_getElem? hp
    refine ⟨_, rfl, ?_⟩
    simp [aj, hs', hf']
    have hlen : kvs'.length ≤ ts.length := by
     have := cM (n := ts.length) c5 fun x hx => by have := (c1 x hx).le ho h0; omega
     simpa using this
    refine pp hk' (by omega) fun ep'' => ?_
    refine n1' _ _ ⟨_, _, an _ _ _, g'.over hf, by simp [hs'], by simp [hf'], ?_, ?_, ?_, ?_, jD c5⟩
    ·intro x hx
     rcases (cc _ _ _ x).mp hx with rfl | hx
     ·exact (F.anc _ hin').step hl hpl
     ·exact c1 x hx
    ·intro x hx; exact (cc _ _ _ x).mpr (.inr (c2 x hx))
    ·intro x hx
     rw [List.take_add_one, hp] at hx
     rcases List.mem_append.mp hx with hx | hx
     ·exact (cc _ _ _ x).mpr (.inr (c3 x hx))
     ·simp at hx; subst hx; exact (cc _ _ _ _).mpr (.inl rfl)
    ·intro x hx
     rcases (cc _ _ _ x).mp hx with rfl | hx
     ·exact .inr hpl
     ·exact c4 x hx
   ·rintro m σ'' ⟨kvs', ep', hk', g', hs', hf', c1, c2, c3, c4, c5⟩
    rw [List.length_map, List.take_length] at c3
    try simp
    refine n1 _ _ ⟨kvs', ep', hk', ⟨c1, c2 _ F.self, ?_, c5⟩, g', hs', hf'⟩
    intro x hx hlt' l' hl' p hp
    by_cases hx2 : x = n - i
    ·subst hx2
     rw [hl] at hl'; cases hl'
     exact c3 p hp
    ·rcases c4 x hx with hx3 | hx3
     ·exact c2 p (F.up x hx3 (by omega) l' hl' p hp)
     ·have := hlo x hx3
      omega
  ·rename_i hin
   have hin' : (n - (i : Int)) ∉ kvs.map (·.1) := by simpa using hin
   refine n1 _ _ ⟨kvs, ep, hk, ⟨F.anc, F.self, ?_, F.nodup⟩, g, by simp [hs], by simp [hfd]⟩
   intro x hx hlt' l' hl' p hp
   by_cases hx2 : x = n - i
   ·subst hx2; exact absurd hx hin'
   ·exact F.up x hx (by omega) l' hl' p hp
 ·rintro m σ' ⟨kvs, ep, hk, F, g, hs, hfd⟩
  rw [rI] at F
  rw [aQ, aj]
  have hall := F.all ho h0 (by omega)
  have hlen : kvs.length ≤ ts.length := by
   have := cM (n := ts.length) F.nodup fun x hx => by have := (F.anc x hx).le ho h0; omega
   simpa using this
  simp [fO, hfd]
  refine nj hk (by omega) fun a ha => ?_
  refine q _ ⟨sK F.nodup, fun x => ?_⟩ a _ (g.upd ha) (g.none ha) (an _ _ _)
  rw [(eX _).mem_iff]
  exact hall x
 ·intro x hx; simp at hx; subst hx; exact .self _
 ·simp
 ·intro x hx hlt; simp at hx hlt; omega
 ·simp
theorem qG (ns : List Int) : ∀ vs σ Q, sp_elders ns vs σ Q → vs.length = 2 ∧ gl ns (aC ["self", "number"] vs aH) σ (fin Q) := by
 rintro vs σ Q ⟨K, b, t, mo, ads, ts, ps, n, rfl, B, h0, h1, q⟩
 refine ⟨rfl, ?_⟩
 unfold gl
 rw [aj]
 simp [jr, ba B]
 refine eV B h0 h1 ?_
 exact rH ns B h0 h1 (by simp) (by simp) q
theorem mG (x : Int) : ∀ ys : List Int, d7 (.int x) (ys.map .int) = some (decide (x ∈ ys))
 | [] => rfl
 | y :: r => by
  have ih := mG x r
  simp only [List.map_cons, d7, ih]
  by_cases h : x = y
  ·subst h; simp [veq0]
  ·simp [veq0, h, Ne.symm h]
theorem sL {σ : ah} {a : Addr} {x : Int} {ys : List Int} {Q : V → ah → Prop} (h : σ a = some (.list (ys.map .int))) (q : Q (.bool (decide (x ∈ ys))) σ) : qN (.int x) (.ref a) σ Q := ⟨_, _, h, mG x ys, q⟩
theorem nU {ns : List Int} {K : List Str} {σ : ah} {b t mo : Addr} {ads : List Addr} {ts : List (List (Str × V))} {ps : List (List Int)} {Q : V → ah → Prop} (B : BookAt K σ b t mo ads ts ps) {n : Int} (h0 : 0 ≤ n) (h1 : n < ts.length)
  (q : ∀ xs, Eld ps n xs → dK (xs.map .int) σ Q) : sp_elders ns [.ref b, .int n] σ Q := ⟨K, b, t, mo, ads, ts, ps, n, rfl, B, h0, h1, q⟩
theorem Eld.len {ps : List (List Int)} {n : Int} {xs : List Int} (e : Eld ps n xs) (o : Ord ps) (h0 : 0 ≤ n) (h1 : n < ps.length) : xs.length ≤ ps.length :=
 cM (by rw [List.nodup_iff_pairwise_ne]; exact e.lt.imp fun h => Int.ne_of_lt h) fun x hx => let h := ((e.mem x).mp hx).le o.lt h0; ⟨h.1, Int.lt_of_le_of_lt h.2 h1⟩
theorem vX {ps : List (List Int)} (o : Ord ps) : ∀ (k : Nat), k < ps.length → Anc ps k 0 := by
 intro k
 induction k using Nat.strongRecOn with
 | _ k ih =>
  intro hk
  rcases Nat.eq_zero_or_pos k with rfl | hp
  ·exact .self _
  ·have e : ps[k]? = some ps[k] := List.getElem?_eq_getElem hk
   obtain ⟨p, hm⟩ := List.exists_mem_of_ne_nil _ (o.some k _ e hp)
   have hl := o.lt k _ e p hm
   obtain ⟨j, rfl⟩ := Int.eq_ofNat_of_zero_le hl.1
   have hj : j < k := Int.ofNat_lt.mp hl.2
   exact .up (n := (k : Int)) e hm (ih j hj (Nat.lt_trans hj hk))
theorem pv (ns : List Int) : ∀ vs σ Q, sp_nearest ns vs σ Q → vs.length = 3 ∧ e5 ns (aC ["self", "one", "other"] vs aH) σ (fin Q) := by
 rintro vs σ Q ⟨K, b, t, mo, ads, ts, ps, n, k, rfl, B, h0, h1, k0, k1, q⟩
 refine ⟨rfl, ?_⟩
 have few := B.ord.few
 have n1 : n < ps.length := by rw [B.lenP]; exact h1
 have k1' : k < ps.length := by rw [B.lenP]; exact k1
 have z1 : Anc ps n 0 := by obtain ⟨j, rfl⟩ := Int.eq_ofNat_of_zero_le h0; exact vX B.ord j (Int.ofNat_lt.mp n1)
 have z2 : Anc ps k 0 := by obtain ⟨j, rfl⟩ := Int.eq_ofNat_of_zero_le k0; exact vX B.ord j (Int.ofNat_lt.mp k1')
 unfold e5
 rw [aj]
 simp [hU, ba B]
 refine nU B h0 h1 fun xs1 E1 a1 σ1 g1 ha1 x1 => ?_
 have e1 := E1.mem
 have B1 := B.grow g1
 rw [aj]
 simp [hH, ba B1]
 refine nU B1 k0 k1 fun xs2 E2 a2 σ2 g2 ha2 x2 => ?_
 have e2 := E2.mem
 have l2 := E2.len B.ord k0 k1'
 simp [a7 x2]
 refine bH (fun σ' => σ' = σ2) (fun σ' e => by rw [e]; exact x2) (fun v => match v with | .int x => if x ∈ xs1 then some (.int x) else Option.none | _ => Option.none) _ _ _ _ (by simp; omega) ?_ rfl ?_
 ·rintro v hv σ' Q1 Q2 rfl n1 n2
  obtain ⟨x, hx, rfl⟩ := List.mem_map.mp hv
  refine ⟨_, rfl, ?_⟩
  try simp
  refine sL (g2 _ _ x1) ?_
  try simp
  split
  ·rename_i h; exact n1 _ _ rfl (by simp [h])
  ·rename_i h; exact n2 _ rfl (by simp [h])
 ·rintro σ' rfl
  have hfm : ∀ xs : List Int, (xs.map V.int).filterMap (fun v => match v with | .int x => if x ∈ xs1 then some (V.int x) else Option.none | _ => Option.none) = (xs.filter fun x => decide (x ∈ xs1)).map V.int := by
   intro xs
   induction xs with
   | nil => rfl
   | cons y r ih =>
    simp only [List.map_cons, List.filterMap_cons]
    by_cases h : y ∈ xs1
    ·rw [List.filter_cons_of_pos (by simpa using h)]; simp [h, ih]
    ·rw [List.filter_cons_of_neg (by simpa using h)]; simp [h, ih]
  simp only [List.nil_append]
  rw [hfm]
  intro a3 ha3
  refine rc (an _ _ _) ?_ fun M hM hmax => ?_
  ·have : (0 : Int) ∈ xs2.filter fun x => decide (x ∈ xs1) := List.mem_filter.mpr ⟨(e2 0).mpr z2, by simpa using (e1 0).mpr z1⟩
   exact List.length_pos_of_mem this
  ·obtain ⟨m1, m2⟩ := List.mem_filter.mp hM
   have m2' : M ∈ xs1 := by simpa using m2
   refine q M _ ((g1.trans g2).upd ha3) ⟨(e1 M).mp m2', (e2 M).mp m1, fun y y1 y2 => ?_⟩
   exact hmax y (List.mem_filter.mpr ⟨(e2 y).mpr y2, by simpa using (e1 y).mpr y1⟩)
end Mine
end
noncomputable section
set_option maxHeartbeats 1000000
namespace Mine
open PySem PySem.W PyProof.Rows PySem.Calls
section
variable {σ : ah} {Q : V → ah → Prop} {K : List Str} {kvs ka kb kc : List (Str × V)} {x : Str}
@[simp] theorem uQ {a b : Option Str} : bF (jx a) (jx b) σ Q = Q (.bool (decide (a = b))) σ := by
 cases a <;> cases b <;> simp [jx]
@[simp] theorem xR {a b : Option Str} : f6 (jx a) (jx b) σ Q = Q (.bool (!decide (a = b))) σ := by
 cases a <;> cases b <;> simp [jx]
theorem ki (h : x ∉ keysOf kvs) : cA kvs x = Option.none := by
 have h' : x ∉ kvs.map (·.1) := h
 have := bZ kvs x
 rw [decide_eq_false h', Option.isSome_eq_false_iff, Option.isNone_iff_eq_none] at this
 exact this
theorem kN (h : x ∉ keysOf kvs) : gS kvs x = Option.none := by
 unfold gS; rw [ki h]
theorem xY (h : Inn K kvs) : (cA kvs x).getD .none = jx (gS kvs x) := by
 by_cases hx : x ∈ keysOf kvs
 ·obtain ⟨v, h1, h2⟩ := dL (show x ∈ kvs.map (·.1) from hx)
  obtain ⟨y, hy⟩ := h.val _ h2
  have hy : v = .str y := hy
  subst hy
  unfold gS; rw [h1]; rfl
 ·rw [kN hx, ki hx]; rfl
theorem cy {a : Addr} {ep : Nat} (h : σ a = some (.dict kvs ep)) (t : Inn K kvs) (q : Q (jx (gS kvs x)) σ) : bz (.ref a) σ ∧ cz [.ref a, .str x] σ Q :=
 ⟨by rw [du h]; trivial, rx h (by rw [xY t]; exact q)⟩
theorem k8 (h : Cl ka kb kc x) : x ∈ keysOf ka ∨ x ∈ keysOf kb ∨ x ∈ keysOf kc := by
 by_cases h1 : x ∈ keysOf ka
 ·exact .inl h1
 ·by_cases h2 : x ∈ keysOf kb
  ·exact .inr (.inl h2)
  ·exact absurd ((kN h2).trans (kN h1).symm) h.2.2
end
structure Fnd (K : List Str) (fk : List (Str × V)) (S : List Str) : Prop where
 nodup : (keysOf fk).Nodup
 mem : ∀ x, x ∈ keysOf fk ↔ x ∈ S
 sub : ∀ x ∈ S, x ∈ K
theorem Fnd.len {K S : List Str} {fk : List (Str × V)} (h : Fnd K fk S) (hK : Kp K) : fk.length ≤ 3 := by
 have := gG h.nodup fun x hx => h.sub x ((h.mem x).mp hx)
 unfold keysOf at this
 rw [List.length_map] at this
 exact Nat.le_trans this hK.few
theorem Fnd.put {K S : List Str} {fk : List (Str × V)} {x : Str} {v : V} (h : Fnd K fk S) (hx : x ∈ K) : Fnd K (bG fk x v) (S ++ [x]) :=
 ⟨fi h.nodup, fun z => (fW _ _ _ z).trans (by
   rw [List.mem_append, List.mem_singleton]
   exact ⟨fun e => e.elim .inr fun e => .inl ((h.mem z).mp e), fun e => e.elim (fun e => .inr ((h.mem z).mpr e)) .inl⟩), fun z hz => by
   rcases List.mem_append.mp hz with e | e
   ·exact h.sub z e
   ·rw [List.mem_singleton.mp e]; exact hx⟩
theorem pE {m₀ : bb} {σ₀ : ah} {K S : List Str} {a t : Addr} {fk kvs : List (Str × V)} {ef ep : Nat} {Q : Fl → bb → ah → Prop} (hK : Kp K) (ha : σ₀ a = some (.dict fk ef)) (ht : σ₀ t = some (.dict kvs ep)) (hat : a ≠ t) (hm : m₀ "found" = some (.ref a)) (hn : Fnd K fk S) (tk : Inn K kvs)
  (h : ∀ m σ' fk' ef', σ' a = some (.dict fk' ef') → Fnd K fk' (S ++ keysOf kvs) → (∀ c, c ≠ a → σ' c = σ₀ c) → (∀ y, y ≠ "path" → m y = m₀ y) → Q .next m σ') :
  fh (.name "path") (fun σ => σ t = some (.dict kvs ep)) (aq (bp iq (aw (.bool true)) (ae "found") (ae "path")) au) (kvs.map fun q => .str q.1) m₀ σ₀ Q := by
 refine aZ (fun i m σ' => ∃ fk' ef', σ' a = some (.dict fk' ef') ∧ Fnd K fk' (S ++ (keysOf kvs).take i) ∧ (∀ c, c ≠ a → σ' c = σ₀ c) ∧ (∀ y, y ≠ "path" → m y = m₀ y)) (fun _ _ _ => False)
  (fun i m σ' ⟨fk', ef', _, _, h5, _⟩ => by rw [h5 t hat.symm]; exact ht) _ ?_ ?_ (fun _ _ _ h => h.elim) _ _ ⟨fk, ef, ha, by rw [List.take_zero, List.append_nil]; exact hn, fun _ _ => rfl, fun _ _ => rfl⟩
 ·rintro i v m σ' Q' hv ⟨fk', ef', h1, h2, h5, h6⟩ n1 n2 n3
  obtain ⟨y, hy, rfl⟩ := gI hv
  refine ⟨_, rfl, ?_⟩
  simp [aj, h6 _ (show "found" ≠ "path" by decide), hm]
  refine df h1 (Nat.lt_of_le_of_lt (h2.len hK) (by decide)) fun ep2 => ?_
  refine n1 _ _ ⟨_, ep2, an _ _ _, ?_, fun c hc => by rw [az hc]; exact h5 c hc, fun y hy => by simp [hy]; exact h6 y hy⟩
  rw [List.take_add_one, hy, ← List.append_assoc]
  exact h2.put (tk.sub _ (List.mem_of_getElem? hy))
 ·rintro m σ' ⟨fk', ef', h1, h2, h5, h6⟩
  rw [List.take_of_length_le (by simp [keysOf])] at h2
  exact h m σ' fk' ef' h1 h2 h5 h6
theorem vU (ns : List Int) : ∀ vs σ Q, sp_all_paths ns vs σ Q → vs.length = 3 ∧ c8 ns (aC ["elder", "one", "other"] vs aH) σ (fin Q) := by
 rintro vs σ Q ⟨K, a, b, c, ka, kb, kc, e1, e2, e3, rfl, ⟨xa, xb, xc, ta, tb, tc, hu⟩, q⟩
 refine ⟨rfl, ?_⟩
 unfold c8
 rw [aj]
 simp [fq]
 intro f ef hf
 have fa : a ≠ f := by rintro rfl; rw [xa] at hf; cases hf
 have fb : b ≠ f := by rintro rfl; rw [xb] at hf; cases hf
 have fc : c ≠ f := by rintro rfl; rw [xc] at hf; cases hf
 show aq _ _ _ _ _
 rw [aj]
 simp [fp]
 intro l hl
 have fl : l ≠ f := by rintro rfl; simp [Mine.aY] at hl
 rw [a7 (an _ _ _)]
 have al : a ≠ l := by rintro rfl; simp [Mine.aY, fa, xa] at hl
 have bl : b ≠ l := by rintro rfl; simp [Mine.aY, fb, xb] at hl
 have cl' : c ≠ l := by rintro rfl; simp [Mine.aY, fc, xc] at hl
 have hln : σ l = Option.none := by rw [az fl] at hl; exact hl
 generalize hσ : aY (aY σ f (.dict [] ef)) l (.list [.ref a, .ref b, .ref c]) = σ₁
 have s1 : ∀ d, d ≠ f → d ≠ l → σ₁ d = σ d := fun d h1 h2 => by rw [← hσ, az h2, az h1]
 have s2 : σ₁ f = some (.dict [] ef) := by rw [← hσ, az fl.symm, an]
 have s3 : σ₁ l = some (.list [.ref a, .ref b, .ref c]) := by rw [← hσ, an]
 refine aZ (fun i m σ' => ∃ fk ef, σ' f = some (.dict fk ef) ∧ Fnd K fk (([ka, kb, kc].take i).flatMap keysOf) ∧ (∀ c, c ≠ f → σ' c = σ₁ c) ∧ m "found" = some (.ref f)) (fun _ _ _ => False)
  (fun i m σ' ⟨fk', ef', _, _, h5, _⟩ => by rw [h5 l fl]; exact s3) _ ?_ ?_ (fun _ _ _ h => h.elim) _ _ ⟨[], ef, s2, ⟨List.nodup_nil, fun _ => Iff.rfl, fun _ h => (nomatch h)⟩, fun _ _ => rfl, by simp⟩
 ·rintro i v m σ' Q' hv ⟨fk, ef', h1, h2, h5, h6⟩ n1 n2 n3
  refine ⟨_, rfl, ?_⟩
  have go : ∀ d kvs ep, d ≠ f → d ≠ l → σ d = some (.dict kvs ep) → Inn K kvs → v = .ref d → [ka, kb, kc][i]? = some kvs → (aq (bX (.name "path") (eY ns (ae "tree")) (aq (bp iq (aw (.bool true)) (ae "found") (ae "path")) au)) au) (put m "tree" v) σ' Q' := by
   rintro d kvs ep hdf hdl hd ht rfl hk
   have hd' : σ' d = some (.dict kvs ep) := by rw [h5 d hdf, s1 d hdf hdl]; exact hd
   simp [aj, cO hd']
   refine pE hu h1 hd' hdf.symm (by simp [h6]) h2 ht fun m₂ σ₂ fk2 ef2 g1 g2 g5 g6 => ?_
   try simp
   refine n1 _ _ ⟨fk2, ef2, g1, ?_, fun c hc => by rw [g5 c hc]; exact h5 c hc, by rw [g6 _ (by decide)]; simp [h6]⟩
   rw [List.take_add_one, hk, List.flatMap_append]
   simpa using g2
  match i, hv with
  | 0, hv => simp at hv; exact go a ka e1 fa al xa ta hv.symm rfl
  | 1, hv => simp at hv; exact go b kb e2 fb bl xb tb hv.symm rfl
  | 2, hv => simp at hv; exact go c kc e3 fc cl' xc tc hv.symm rfl
  | n + 3, hv => simp at hv
 ·rintro m σ' ⟨fk, ef', h1, h2, h5, h6⟩
  have hl := h2.len hu
  rw [aQ, aj]
  simp [fo, h6, h1]
  refine ⟨Nat.lt_of_le_of_lt hl (by decide), fun r hr => ?_⟩
  have hrf : r ≠ f := by rintro rfl; rw [h1] at hr; cases hr
  have hrn : σ r = Option.none := by
   by_cases hrl : r = l
   ·rw [hrl]; exact hln
   ·rw [← s1 r hrf hrl, ← h5 r hrf]; exact hr
  have hfn : ∀ d o, σ d = some o → d ≠ f := fun d o e => by rintro rfl; rw [hf] at e; cases e
  refine q (qy (keysOf fk)) (fun x => sh.trans ((h2.mem x).trans (by simp))) (by unfold keysOf; rw [oo, List.length_map]; exact hl) r _ (fun d o hd => ?_) hrn (an _ _ _)
  have d1 := hfn d o hd
  have d2 : d ≠ l := by rintro rfl; rw [hln] at hd; cases hd
  have d3 : d ≠ r := by rintro rfl; rw [hrn] at hd; cases hd
  rw [az d3, h5 d d1, s1 d d1 d2]; exact hd
end Mine
end
noncomputable section
set_option maxHeartbeats 1000000
namespace Mine
open PySem PySem.W PyProof.Rows PySem.Calls
theorem fV {ks : List Str} {i : Nat} {v : V} (h : (ks.map V.str)[i]? = some v) : ∃ y, ks[i]? = some y ∧ v = .str y := by
 rw [List.getElem?_map] at h
 obtain ⟨q, hq, rfl⟩ := Option.map_eq_some_iff.mp h
 exact ⟨q, hq, rfl⟩
section
variable {ns : List Int} {K : List Str} {σ σ' : ah} {Q : V → ah → Prop} {a b c : Addr} {ka kb kc : List (Str × V)} {e1 e2 e3 : Nat}
theorem D3.grow (d : D3 K a b c ka kb kc e1 e2 e3 σ) (g : Grow σ σ') : D3 K a b c ka kb kc e1 e2 e3 σ' := ⟨g _ _ d.xa, g _ _ d.xb, g _ _ d.xc, d.ta, d.tb, d.tc, d.un⟩
theorem D3.key (d : D3 K a b c ka kb kc e1 e2 e3 σ) {x : Str} (h : x ∈ keysOf ka ∨ x ∈ keysOf kb ∨ x ∈ keysOf kc) : x ∈ K := h.elim (d.ta.sub x) fun h => h.elim (d.tb.sub x) (d.tc.sub x)
theorem qA (d : D3 K a b c ka kb kc e1 e2 e3 σ) (q : ∀ xs : List Str, (∀ x, x ∈ xs ↔ (x ∈ keysOf ka ∨ x ∈ keysOf kb ∨ x ∈ keysOf kc)) → xs.length ≤ 3 → dK (xs.map .str) σ Q) : sp_all_paths ns [.ref a, .ref b, .ref c] σ Q := ⟨K, a, b, c, ka, kb, kc, e1, e2, e3, rfl, d, q⟩
theorem vN (d : D3 K a b c ka kb kc e1 e2 e3 σ) (q : ∀ ws : List (Str × Str), (∀ q ∈ ws, q.2 = Str.ofString "clash" → Cl ka kb kc q.1) → (∀ x, Cl ka kb kc x → (x, Str.ofString "clash") ∈ ws) → ws.length ≤ 3 → dK (ws.map fun q => .tup [.str q.1, .str q.2]) σ Q) : sp_marks ns [.ref a, .ref b, .ref c] σ Q := ⟨K, a, b, c, ka, kb, kc, e1, e2, e3, rfl, d, q⟩
theorem qz (d : D3 K a b c ka kb kc e1 e2 e3 σ) (q : ∀ xs : List Str, (∀ x, x ∈ xs ↔ Cl ka kb kc x) → xs.length ≤ 3 → dK (xs.map .str) σ Q) : sp_clashing ns [.ref a, .ref b, .ref c] σ Q := ⟨K, a, b, c, ka, kb, kc, e1, e2, e3, rfl, d, q⟩
theorem tE (d : D3 K a b c ka kb kc e1 e2 e3 σ) (q : ∀ f kvs ep σ', Grow σ σ' → σ f = Option.none → σ' f = some (.dict kvs ep) → Inn K kvs → Q (.ref f) σ') : sp_standing ns [.ref a, .ref b, .ref c] σ Q := ⟨K, a, b, c, ka, kb, kc, e1, e2, e3, rfl, d, q⟩
theorem tG (d : D3 K a b c ka kb kc e1 e2 e3 σ) (q : ∀ xs : List Str, (∀ x, x ∈ xs ↔ Cl ka kb kc x) → xs.length ≤ 3 → dK (xs.map fun x => .tup [.str x]) σ Q) : sp_clashes ns [.ref a, .ref b, .ref c] σ Q := ⟨K, a, b, c, ka, kb, kc, e1, e2, e3, rfl, d, q⟩
end
structure Mk (ka kb kc : List (Str × V)) (S : List Str) (ws : List (Str × Str)) : Prop where
 cl : ∀ q ∈ ws, q.2 = Str.ofString "clash" → Cl ka kb kc q.1
 all : ∀ x ∈ S, Cl ka kb kc x → (x, Str.ofString "clash") ∈ ws
 len : ws.length ≤ S.length
theorem Mk.skip {ka kb kc : List (Str × V)} {S : List Str} {ws : List (Str × Str)} {x : Str} (h : Mk ka kb kc S ws) (hx : ¬ Cl ka kb kc x) : Mk ka kb kc (S ++ [x]) ws :=
 ⟨h.cl, fun y hy c => by
  rcases List.mem_append.mp hy with e | e
  ·exact h.all y e c
  ·rw [List.mem_singleton.mp e] at c; exact absurd c hx, by rw [List.length_append]; exact Nat.le_succ_of_le h.len⟩
theorem Mk.add {ka kb kc : List (Str × V)} {S : List Str} {ws : List (Str × Str)} {x u : Str} (h : Mk ka kb kc S ws) (hx : u = Str.ofString "clash" ↔ Cl ka kb kc x) : Mk ka kb kc (S ++ [x]) (ws ++ [(x, u)]) :=
 ⟨fun q hq e => by
  rcases List.mem_append.mp hq with z | z
  ·exact h.cl q z e
  ·rw [List.mem_singleton.mp z] at e ⊢; exact hx.mp e, fun y hy c => by
  rcases List.mem_append.mp hy with e | e
  ·exact List.mem_append_left _ (h.all y e c)
  ·have e := List.mem_singleton.mp e
   subst e
   rw [← hx.mpr c]; exact List.mem_append_right _ (List.mem_singleton.mpr rfl), by rw [List.length_append, List.length_append]; exact Nat.succ_le_succ h.len⟩
theorem sp (ns : List Int) : ∀ vs σ Q, sp_marks ns vs σ Q → vs.length = 3 ∧ iF ns (aC ["elder", "one", "other"] vs aH) σ (fin Q) := by
 rintro vs σ Q ⟨K, a, b, c, ka, kb, kc, e1, e2, e3, rfl, d, q⟩
 refine ⟨rfl, ?_⟩
 unfold iF
 rw [aj]
 simp [j8]
 intro t ht
 rw [aj]
 have g0 : Grow σ (aY σ t (.list [])) := Grow.refl.upd ht
 have xt := an σ t (.list [])
 generalize (aY σ t (.list [])) = σ₁ at g0 xt ⊢
 simp [j7]
 refine qA (d.grow g0) fun ks hks hkl l σ₂ g2 hl xl => ?_
 rw [a7 xl]
 have lt : l ≠ t := by rintro rfl; rw [xt] at hl; cases hl
 have xt2 := g2 _ _ xt
 have g02 := g0.trans g2
 have d2 := d.grow g02
 have ne : ∀ {z : Addr} {o : AObj}, σ z = some o → z ≠ t := fun {z o} h => by rintro rfl; rw [ht] at h; cases h
 refine aZ (fun i m σ' => ∃ ws : List (Str × Str), (∀ d, d ≠ t → σ' d = σ₂ d) ∧ σ' t = some (.list (ws.map fun q => V.tup [.str q.1, .str q.2])) ∧ Mk ka kb kc (ks.take i) ws ∧ m "told" = some (.ref t) ∧ m "elder" = some (.ref a) ∧ m "one" = some (.ref b) ∧ m "other" = some (.ref c)) (fun _ _ _ => False)
  (fun i m σ' ⟨_, h, _⟩ => by rw [h l lt]; exact xl) _ ?_ ?_ (fun _ _ _ h => h.elim) _ _ ⟨[], fun _ _ => rfl, xt2, ⟨(fun _ h => (nomatch h)), (fun _ h => (nomatch h)), Nat.le_refl _⟩, by simp, by simp, by simp, by simp⟩
 ·rintro i v m σ' Q' hv ⟨ws, h1, h2, hw, h3, h4, h5, h6⟩ n1 n2 n3
  obtain ⟨y, hy, rfl⟩ := fV hv
  have hwl : ws.length ≤ 3 := Nat.le_trans hw.len (Nat.le_trans (by rw [List.length_take]; exact Nat.min_le_right _ _) hkl)
  have htk : ks.take (i + 1) = ks.take i ++ [y] := by rw [List.take_add_one, hy]; rfl
  refine ⟨_, rfl, ?_⟩
  have ya : σ' a = some (.dict ka e1) := by rw [h1 a (ne d.xa)]; exact d2.xa
  have yb : σ' b = some (.dict kb e2) := by rw [h1 b (ne d.xb)]; exact d2.xb
  have yc : σ' c = some (.dict kc e3) := by rw [h1 c (ne d.xc)]; exact d2.xc
  have skip : ¬ Cl ka kb kc y → ∀ (m' : bb), m' "told" = some (.ref t) → m' "elder" = some (.ref a) → m' "one" = some (.ref b) → m' "other" = some (.ref c) → Q' .next m' σ' := fun hc m' z1 z2 z3 z4 => n1 _ _ ⟨ws, h1, h2, by rw [htk]; exact hw.skip hc, z1, z2, z3, z4⟩
  have put1 : ∀ (m' : bb) (u : Str), (u = Str.ofString "clash" ↔ Cl ka kb kc y) → m' "told" = some (.ref t) → m' "elder" = some (.ref a) → m' "one" = some (.ref b) → m' "other" = some (.ref c) → bu [.ref t, .tup [.str y, .str u]] σ' fun x σ'' => Q' .next m' σ'' := by
   intro m' u hu z1 z2 z3 z4
   refine b5 h2 (by rw [List.length_map]; exact Nat.lt_of_le_of_lt hwl (by decide)) (n1 _ _ ⟨ws ++ [(y, u)], fun d hd => by rw [az hd]; exact h1 d hd, ?_, by rw [htk]; exact hw.add hu, z1, z2, z3, z4⟩)
   rw [an, List.map_append]; rfl
  simp only [aj, ox, mq, ml, lU, oG]
  simp [h4]
  refine cy ya d.ta ?_
  simp [aj, h5]
  refine cy yb d.tb ?_
  simp [aj, h6]
  refine cy yc d.tc ?_
  simp [aj, h3, ck h2]
  split
  ·rename_i k1
   have nc : ¬ Cl ka kb kc y := fun h => h.1 k1
   split
   ·exact skip nc _ (by simp [h3]) (by simp [h4]) (by simp [h5]) (by simp [h6])
   ·exact put1 _ _ ⟨fun e => absurd e (by decide), fun h => absurd h nc⟩ (by simp [h3]) (by simp [h4]) (by simp [h5]) (by simp [h6])
  ·rename_i k1
   split
   ·rename_i k2
    exact put1 _ _ ⟨fun e => absurd e (by decide), fun h => absurd k2 h.2.1⟩ (by simp [h3]) (by simp [h4]) (by simp [h5]) (by simp [h6])
   ·rename_i k2
    split
    ·rename_i k3
     exact put1 _ _ ⟨fun e => absurd e (by decide), fun h => absurd k3 h.2.2⟩ (by simp [h3]) (by simp [h4]) (by simp [h5]) (by simp [h6])
    ·rename_i k3
     exact put1 _ _ ⟨fun _ => ⟨k1, k2, k3⟩, fun _ => rfl⟩ (by simp [h3]) (by simp [h4]) (by simp [h5]) (by simp [h6])
 ·rintro m σ' ⟨ws, h1, h2, hw, h3, h4, h5, h6⟩
  rw [List.length_map, List.take_length] at hw
  rw [aQ, aj]
  simp [j6, h3]
  have hg : Grow σ σ' := fun d o e => by rw [h1 d (ne e)]; exact g02 d o e
  exact q ws hw.cl (fun x hx => hw.all x ((hks x).mpr (k8 hx)) hx) (Nat.le_trans hw.len hkl) t σ' hg ht h2
theorem nr (ns : List Int) : ∀ vs σ Q, sp_clashing ns vs σ Q → vs.length = 3 ∧ dF ns (aC ["elder", "one", "other"] vs aH) σ (fin Q) := by
 rintro vs σ Q ⟨K, a, b, c, ka, kb, kc, e1, e2, e3, rfl, d, q⟩
 refine ⟨rfl, ?_⟩
 simp [dF, gm, aj]
 refine vN d fun ws hw hc hwl l σ₁ g1 hl xl => ?_
 rw [a7 xl]
 refine bH (fun s => s = σ₁) (fun s hs => by rw [hs]; exact xl) (fun v => match v with | .tup [.str x, .str u] => if u = Str.ofString "clash" then some (.str x) else Option.none | _ => Option.none) _ _ _ _ (by simp; exact Nat.le_trans hwl (by decide)) ?_ rfl ?_
 ·rintro v hv s Q₁ Q₂ rfl n1 n2
  obtain ⟨x, hx, rfl⟩ := List.mem_map.mp hv
  refine ⟨_, rfl, ?_⟩
  by_cases hu : x.2 = Str.ofString "clash"
  ·simp [hu]
   exact n1 _ _ rfl (by simp [hu])
  ·simp [hu]
   exact n2 _ rfl (by simp [hu])
 ·rintro s rfl r hr
  have e : ∀ ws : List (Str × Str), (ws.map fun q => V.tup [.str q.1, .str q.2]).filterMap (fun v => match v with | .tup [.str x, .str u] => if u = Str.ofString "clash" then some (V.str x) else Option.none | _ => Option.none) = ((ws.filter fun q => decide (q.2 = Str.ofString "clash")).map (·.1)).map V.str := by
   intro ws
   induction ws with
   | nil => rfl
   | cons y t ih =>
    simp only [List.map_cons, List.filterMap_cons]
    by_cases h : y.2 = Str.ofString "clash"
    ·rw [List.filter_cons_of_pos (by simpa using h)]; simp [h, ih]
    ·rw [List.filter_cons_of_neg (by simpa using h)]; simp [h, ih]
  rw [List.nil_append, e]
  refine q _ (fun x => ⟨fun hx => ?_, fun hx => ?_⟩) ?_ r _ (g1.upd hr) (g1.none hr) (an _ _ _)
  ·obtain ⟨p, hp, rfl⟩ := List.mem_map.mp hx
   obtain ⟨h1, h2⟩ := List.mem_filter.mp hp
   exact hw p h1 (of_decide_eq_true h2)
  ·exact List.mem_map.mpr ⟨_, List.mem_filter.mpr ⟨hc x hx, decide_eq_true rfl⟩, rfl⟩
  ·rw [List.length_map]; exact Nat.le_trans (List.length_filter_le _ _) hwl
theorem mF (x : Str) : ∀ ys : List Str, d7 (.str x) (ys.map .str) = some (decide (x ∈ ys))
 | [] => rfl
 | y :: r => by
  have ih := mF x r
  simp only [List.map_cons, d7, ih]
  by_cases h : x = y
  ·subst h; simp [veq0]
  ·simp [veq0, h, Ne.symm h]
theorem nk (ns : List Int) : ∀ vs σ Q, sp_standing ns vs σ Q → vs.length = 3 ∧ dD ns (aC ["elder", "one", "other"] vs aH) σ (fin Q) := by
 rintro vs σ Q ⟨K, a, b, c, ka, kb, kc, e1, e2, e3, rfl, d, q⟩
 refine ⟨rfl, ?_⟩
 unfold dD
 rw [aj]
 simp [gg]
 refine qz d fun xs _ _ w σ₁ g1 hw xw => ?_
 rw [aj]
 simp [gf]
 intro f ef hf
 have hfn := g1.none hf
 have g2 : Grow σ₁ (aY σ₁ f (.dict [] ef)) := Grow.refl.upd hf
 have xf := an σ₁ f (.dict [] ef)
 generalize (aY σ₁ f (.dict [] ef)) = σ₂ at g2 xf ⊢
 show aq _ _ _ _ _
 rw [aj]
 simp [ge]
 have d2 := (d.grow g1).grow g2
 refine qA d2 fun ks hks hkl l σ₃ g3 hl xl => ?_
 rw [a7 xl]
 have xf3 := g3 _ _ xf
 have hlf : l ≠ f := by rintro rfl; rw [xf] at hl; cases hl
 have hwf : w ≠ f := by rintro rfl; rw [xw] at hf; cases hf
 have xw3 := g3 _ _ (g2 _ _ xw)
 have d3 := d2.grow g3
 have ne : ∀ {z : Addr} {o : AObj}, σ z = some o → z ≠ f := fun {z o} h => by rintro rfl; rw [hfn] at h; cases h
 refine aZ (fun i m σ' => (∀ z, z ≠ f → σ' z = σ₃ z) ∧ (∃ kvs ep, σ' f = some (.dict kvs ep) ∧ Inn K kvs) ∧ m "away" = some (.ref w) ∧ m "found" = some (.ref f) ∧ m "elder" = some (.ref a) ∧ m "one" = some (.ref b) ∧ m "other" = some (.ref c)) (fun _ _ _ => False)
  (fun i m σ' h => by rw [h.1 l hlf]; exact xl) _ ?_ ?_ (fun _ _ _ h => h.elim) _ _ ⟨fun _ _ => rfl, ⟨[], ef, xf3, Inn.nil⟩, by simp, by simp, by simp, by simp, by simp⟩
 ·rintro i v m σ' Q' hv ⟨h1, ⟨kvs, ep, h2, hin⟩, mw, mf, me, mo, mt⟩ n1 n2 n3
  obtain ⟨y, hy, rfl⟩ := fV hv
  have hyK := d.key ((hks y).mp (List.mem_of_getElem? hy))
  refine ⟨_, rfl, ?_⟩
  have ya : σ' a = some (.dict ka e1) := by rw [h1 a (ne d.xa)]; exact d3.xa
  have yb : σ' b = some (.dict kb e2) := by rw [h1 b (ne d.xb)]; exact d3.xb
  have yc : σ' c = some (.dict kc e3) := by rw [h1 c (ne d.xc)]; exact d3.xc
  have yw : σ' w = some (.list (xs.map .str)) := by rw [h1 w hwf]; exact xw3
  have last : ∀ (m' : bb) (o : Option Str), m' "text" = some (jx o) → m' "path" = some (.str y) → m' "away" = some (.ref w) → m' "found" = some (.ref f) → m' "elder" = some (.ref a) → m' "one" = some (.ref b) → m' "other" = some (.ref c) →
    (aq (cZ (fg (aL (av iX (ae "path") (ae "away"))) (fg (aL (av dy (ae "text") (aw .none))) tT)) (aq (bp iq (ae "text") (ae "found") (ae "path")) au) au) au) m' σ' Q' := by
   intro m' o z1 z2 z3 z4 z5 z6 z7
   have skip : Q' .next m' σ' := n1 _ _ ⟨h1, ⟨kvs, ep, h2, hin⟩, z3, z4, z5, z6, z7⟩
   rw [aj]
   simp [z1, z2, z3, z4]
   refine ⟨_, _, yw, mF y xs, ?_⟩
   by_cases hin' : y ∈ xs
   ·simp [hin']
    exact skip
   ·cases o with
    | none =>
     simp [hin', jx]
     exact skip
    | some t =>
     simp [hin', jx, aj, z1, z2, z4]
     refine df h2 (Nat.lt_of_le_of_lt (hin.len d.un) (by decide)) fun ep2 => ?_
     exact n1 _ _ ⟨fun z hz => by rw [az hz]; exact h1 z hz, ⟨_, ep2, an _ _ _, hin.put hyK⟩, z3, z4, z5, z6, z7⟩
  rw [aj]
  simp only [ox, mq, ml, lU, oG]
  simp [mo]
  refine cy yb d.tb ?_
  rw [aj]
  simp [mo, me]
  refine cy yb d.tb ?_
  try simp
  refine cy ya d.ta ?_
  by_cases hq : gS kb y = gS ka y
  ·rw [uQ, decide_eq_true hq]
   simp only [dZ, if_true]
   rw [aj]
   simp [mt]
   refine cy yc d.tc ?_
   exact last _ (gS kc y) (by simp) (by simp) (by simp [mw]) (by simp [mf]) (by simp [me]) (by simp [mo]) (by simp [mt])
  ·simp [hq]
   exact last _ (gS kb y) (by simp) (by simp) (by simp [mw]) (by simp [mf]) (by simp [me]) (by simp [mo]) (by simp [mt])
 ·rintro m σ' ⟨h1, ⟨kvs, ep, h2, hin⟩, mw, mf, me, mo, mt⟩
  rw [aQ, aj]
  simp [gc, mf]
  exact q f kvs ep σ' (fun z o e => by rw [h1 z (ne e)]; exact g3 _ _ (g2 _ _ (g1 _ _ e))) hfn h2 hin
end Mine
end
noncomputable section
set_option maxHeartbeats 1000000
namespace Mine
open PySem PySem.W PyProof.Rows PySem.Calls
theorem pF {x : Str} (n : Nat) : (((Txt.split x (Str.ofString "/")).take n).map (·.length)).sum + ((Txt.split x (Str.ofString "/")).take n).length ≤ x.length + 1 := by
 have h := PyProof.Rows.split_weight x (Str.ofString "/") (by rw [dQ]; decide)
 have key : ∀ (l : List Str) (n : Nat), ((l.take n).map (·.length)).sum + (l.take n).length ≤ (l.map (·.length)).sum + l.length := by
  intro l
  induction l with
  | nil => intro n; simp
  | cons y r ih => intro n; cases n with
   | zero => simp
   | succ n => have := ih n; simp at this ⊢; omega
 exact Nat.le_trans (key _ n) h
theorem sx (ns : List Int) : ∀ vs σ Q, sp_above ns vs σ Q → vs.length = 1 ∧ iG ns (aC ["path"] vs aH) σ (fin Q) := by
 rintro vs σ Q ⟨x, rfl, hx, q⟩
 refine ⟨rfl, ?_⟩
 have hsz := PyProof.Rows.split_le x (Str.ofString "/")
 simp [iG, kg, j9, aj, dQ]
 refine ⟨by omega, fun a ha => ?_⟩
 have hp : ∀ σ', Grow (aY σ a (.list ((Txt.split x (Str.ofString "/")).map .str))) σ' → σ' a = some (.list ((Txt.split x (Str.ofString "/")).map .str)) := fun σ' g => g _ _ (an _ _ _)
 simp [bT (an σ a _)]
 refine ⟨by omega, ?_⟩
 refine gL (Grow (aY σ a (.list ((Txt.split x (Str.ofString "/")).map .str)))) (fun _ _ => trivial) _ ((db x).map .str) [] _ _ (by simp [db, cL]) (by simp [cL]; omega) ?_ Grow.refl ?_
 ·intro i v y hv hy σ' Q' g n
  obtain ⟨hi, rfl⟩ := dg hv
  refine ⟨_, rfl, ?_⟩
  simp
  refine rL (hp _ g) fun b hb => ?_
  rw [rK _ (by omega), show (1 + (i : Int)).toNat = i + 1 by omega, ← List.map_take]
  have hsum := pF (x := x) (i + 1)
  refine pR (ys := (Txt.split x (Str.ofString "/")).take (i + 1)) (an _ _ _) (by rw [dQ]; omega) ?_
  have : y = .str (Str.join (Str.ofString "/") ((Txt.split x (Str.ofString "/")).take (i + 1))) := by
   simp [db, hi] at hy
   exact hy.symm
  rw [← this]
  exact n _ (g.upd hb)
 ·intro σ' g b hb
  simp
  refine q b _ ?_ ?_ (an _ _ _)
  ·exact (Grow.upd Grow.refl ha |>.trans g).upd hb
  ·exact (Grow.upd Grow.refl ha |>.trans g).none hb
theorem qB {ns : List Int} {σ : ah} {Q : V → ah → Prop} {x : Str} (hx : x.length ≤ 12) (q : dK ((db x).map .str) σ Q) : sp_above ns [.str x] σ Q := ⟨x, rfl, Nat.le_trans hx (by decide), q⟩
theorem mI {X : ST} {m₀ : bb} {σ : ah} {f r : Addr} {kf : List (Str × V)} {ef : Nat} {us : List Str} {Q : Fl → bb → ah → Prop} (xf : σ f = some (.dict kf ef)) (xr : σ r = some (.list (us.map .str))) (mf : m₀ "files" = some (.ref f)) (hn : ∀ u ∈ us, u ∉ keysOf kf) (h : ∀ m, (∀ y, y ≠ "folder" → m y = m₀ y) → Q .next m σ) :
  fh (.name "folder") (fun σ => σ r = some (.list (us.map V.str))) (aq (cZ (aL (av gT (ae "folder") (ae "files"))) X au) au) (us.map .str) m₀ σ Q := by
 refine aZ (fun i m σ' => σ' = σ ∧ ∀ y, y ≠ "folder" → m y = m₀ y) (fun _ _ _ => False) (fun i m σ' h => by rw [h.1]; exact xr) _ ?_ ?_ (fun _ _ _ h => h.elim) _ _ ⟨rfl, fun _ _ => rfl⟩
 ·rintro i v m σ' Q' hv ⟨rfl, hm⟩ n1 n2 n3
  obtain ⟨u, hu, rfl⟩ := fV hv
  refine ⟨_, rfl, ?_⟩
  rw [aj]
  simp [(hm "files" (by decide)).trans mf]
  refine kH xf ?_
  rw [ki (hn u (List.mem_of_getElem? hu))]
  simp
  exact n1 _ _ ⟨rfl, fun y hy => by simp [hy]; exact hm y hy⟩
 ·rintro m σ' ⟨rfl, hm⟩
  exact h m hm
theorem vP : ∀ l : List (List Str), (∀ z ∈ l, ∃ x, z = [x]) → ∃ ys : List Str, l = ys.map fun x => [x]
 | [], _ => ⟨[], rfl⟩
 | z :: l, h => by
  obtain ⟨x, rfl⟩ := h z (.head _)
  obtain ⟨ys, rfl⟩ := vP l fun z hz => h z (.tail _ hz)
  exact ⟨x :: ys, rfl⟩
theorem vI (xs : List Str) : ∃ ys : List Str, jz (xs.map fun x => [x]) = (ys.map fun x => [x]) ∧ (∀ x, x ∈ ys ↔ x ∈ xs) ∧ ys.length = xs.length := by
 have hp := gy (xs.map fun x => [x])
 obtain ⟨ys, e⟩ := vP (jz (xs.map fun x => [x])) fun z hz => by
  obtain ⟨x, _, rfl⟩ := List.mem_map.mp (hp.mem_iff.mp hz)
  exact ⟨x, rfl⟩
 rw [e] at hp
 refine ⟨ys, e, fun x => ?_, by simpa using hp.length_eq⟩
 have := hp.mem_iff (a := [x])
 simpa using this
theorem px (ns : List Int) : ∀ vs σ Q, sp_clashes ns vs σ Q → vs.length = 3 ∧ e8 ns (aC ["elder", "one", "other"] vs aH) σ (fin Q) := by
 rintro vs σ Q ⟨K, a, b, c, ka, kb, kc, e1, e2, e3, rfl, d, q⟩
 refine ⟨rfl, ?_⟩
 unfold e8
 rw [aj]
 simp [ii]
 refine qz d fun xs hxs hxl l σ₁ g1 hl xl => ?_
 rw [a7 xl]
 refine gL (fun s => s = σ₁) (fun s hs => by rw [hs]; exact xl) _ ((xs.map fun x => [x]).map ko) [] _ _ (by simp) (by simp; exact Nat.le_trans hxl (by decide)) ?_ rfl ?_
 ·rintro i v y hv hy s Q' rfl n
  obtain ⟨x, hx, rfl⟩ := fV hv
  refine ⟨_, rfl, ?_⟩
  simp
  have : y = .tup [.str x] := by
   rw [List.map_map, List.getElem?_map, hx] at hy
   exact (Option.some.inj hy).symm
  rw [← this]
  exact n _ rfl
 ·rintro s rfl t ht
  rw [List.nil_append]
  have htn := g1.none ht
  have g2 := g1.upd (o := .list ((xs.map fun x => [x]).map ko)) ht
  have xt := an s t (.list ((xs.map fun x => [x]).map ko))
  generalize (aY s t (.list ((xs.map fun x => [x]).map ko))) = σ₂ at g2 xt ⊢
  rw [aj]
  simp [ig]
  refine tE (d.grow g2) fun f kf ef σ₃ g3 hf xf hin => ?_
  have xt3 := g3 _ _ xt
  rw [aj]
  simp [ie, cO xf]
  refine aZ (fun i m σ' => Grow σ₃ σ' ∧ m "told" = some (.ref t) ∧ m "files" = some (.ref f)) (fun _ _ _ => False) (fun j m σ' h => h.1 _ _ xf) _ ?_ ?_ (fun _ _ _ h => h.elim) _ _ ⟨Grow.refl, by simp, by simp⟩
  ·rintro i v m σ' Q' hv ⟨h1, mt, mf⟩ n1 n2 n3
   obtain ⟨y, hy, rfl⟩ := gI hv
   refine ⟨_, rfl, ?_⟩
   have hyk := hin.sub y (List.mem_of_getElem? hy)
   rw [aj]
   simp
   refine qB (d.un.len y hyk) fun r σ₄ g4 hr xr => ?_
   rw [a7 xr]
   refine mI (g4 _ _ (h1 _ _ xf)) xr (by simp [mf]) (fun u hu hk => d.un.abv y hyk u hu (hin.sub u hk)) fun m₅ ho => ?_
   rw [aQ]
   simp
   exact n1 _ _ ⟨h1.trans g4, (ho _ (by decide)).trans (by simp [mt]), (ho _ (by decide)).trans (by simp [mf])⟩
  ·rintro m σ' ⟨h1, mt, mf⟩
   rw [aQ, aj]
   simp [ic, mt]
   obtain ⟨ys, e, hm, hl⟩ := vI xs
   refine ⟨xs.map fun x => [x], h1 _ _ xt3, ?_, by rw [List.length_map]; exact Nat.lt_of_le_of_lt hxl (by decide), fun r hr => ?_⟩
   ·intro l hl
    obtain ⟨x, _, rfl⟩ := List.mem_map.mp hl; simp
   ·have g := (g2.trans g3).trans h1
    refine q ys (fun x => (hm x).trans (hxs x)) (by rw [hl]; exact hxl) r _ (g.upd hr) (g.none hr) ?_
    rw [an, e, List.map_map]; rfl
end Mine
end
noncomputable section
set_option maxHeartbeats 1000000
namespace Mine
open PySem PySem.W PyProof.Rows PySem.Calls
theorem og {xs : List Str} {i : Nat} {v : V} (h : (xs.map fun x => V.tup [.str x])[i]? = some v) : ∃ y, xs[i]? = some y ∧ v = .tup [.str y] := by
 rw [List.getElem?_map] at h
 obtain ⟨q, hq, rfl⟩ := Option.map_eq_some_iff.mp h
 exact ⟨q, hq, rfl⟩
theorem Pick.len {K : List Str} {a b c : Addr} {ka kb kc pk : List (Str × V)} {e1 e2 e3 : Nat} {σ : ah} (h : Pick ka kb kc pk) (d : D3 K a b c ka kb kc e1 e2 e3 σ) : ∀ x ∈ keysOf pk, x ∈ K := fun x hx => d.key (k8 ((h.mem x).mp hx))
theorem pD {K : List Str} {pk kf : List (Str × V)} {p f : Addr} {ep ef : Nat} {m₀ : bb} {σ₀ : ah} {Q : Fl → bb → ah → Prop} (hK : Kp K) (hv : ∀ q ∈ pk, ∃ o, q.2 = jx o) (hk : ∀ x ∈ keysOf pk, x ∈ K) (xp : σ₀ p = some (.dict pk ep)) (xf : σ₀ f = some (.dict kf ef)) (hpf : p ≠ f) (hin : Inn K kf) (mp : m₀ "picks" = some (.ref p)) (mf : m₀ "files" = some (.ref f))
  (h : ∀ m σ' kf' ef', σ' f = some (.dict kf' ef') → Inn K kf' → (∀ z, z ≠ f → σ' z = σ₀ z) → m "files" = some (.ref f) → Q .next m σ') :
  fh (.name "path") (fun σ => σ p = some (.dict pk ep)) (aq (cZ (aL (av dy (av dv (ae "picks") (ae "path")) (aw .none))) (aq (bp iq (av dv (ae "picks") (ae "path")) (ae "files") (ae "path")) au) (aq (cZ (aL (av gT (ae "path") (ae "files"))) (aq (bD (bg bz jJ (ae "files") (ai (ae "path") ar))) au) au) au)) au) (pk.map fun q => .str q.1) m₀ σ₀ Q := by
 refine aZ (fun i m σ' => (∃ kf' ef', σ' f = some (.dict kf' ef') ∧ Inn K kf') ∧ (∀ z, z ≠ f → σ' z = σ₀ z) ∧ m "files" = some (.ref f) ∧ m "picks" = some (.ref p)) (fun _ _ _ => False)
  (fun i m σ' ⟨_, h5, _⟩ => by rw [h5 p hpf]; exact xp) _ ?_ ?_ (fun _ _ _ h => h.elim) _ _ ⟨⟨kf, ef, xf, hin⟩, fun _ _ => rfl, mf, mp⟩
 ·rintro i v m σ' Q' hv' ⟨⟨kf', ef', h1, h2⟩, h5, h6, h7⟩ n1 n2 n3
  obtain ⟨y, hy, rfl⟩ := gI hv'
  have hyp := List.mem_of_getElem? hy
  have hyK := hk y hyp
  have yp : σ' p = some (.dict pk ep) := by rw [h5 p hpf]; exact xp
  obtain ⟨w, g1, g2⟩ := dL (show y ∈ pk.map (·.1) from hyp)
  obtain ⟨o, ho⟩ := hv _ g2
  have ho : w = jx o := ho
  subst ho
  refine ⟨_, rfl, ?_⟩
  rw [aj]
  simp [h7]
  refine jO yp g1 ?_
  cases o with
  | none =>
   simp [jx, lB]
   rw [aj]
   simp [h6]
   refine kH h1 ?_
   rw [bZ]
   by_cases hin' : y ∈ keysOf kf'
   ·have h' : y ∈ kf'.map (·.1) := hin'
    obtain ⟨v2, hv2, _⟩ := dL h'
    simp only [h', decide_true, dZ, if_true]
    rw [aj]
    simp [h6, du h1]
    refine lM h1 hv2 fun ep' => ?_
    exact n1 _ _ ⟨⟨_, ep', an _ _ _, h2.cut⟩, fun z hz => by rw [az hz]; exact h5 z hz, by simp [h6], by simp [h7]⟩
   ·have h' : y ∉ kf'.map (·.1) := hin'
    simp only [h', decide_false, dZ, Bool.false_eq_true, if_false]
    exact n1 _ _ ⟨⟨_, _, h1, h2⟩, h5, by simp [h6], by simp [h7]⟩
  | some t =>
   simp [jx, lB]
   rw [aj]
   simp [h6, h7]
   refine jO yp g1 ?_
   try simp [jx]
   refine df h1 (Nat.lt_of_le_of_lt (h2.len hK) (by decide)) fun ep2 => ?_
   exact n1 _ _ ⟨⟨_, ep2, an _ _ _, h2.put hyK⟩, fun z hz => by rw [az hz]; exact h5 z hz, by simp [h6], by simp [h7]⟩
 ·rintro m σ' ⟨⟨kf', ef', h1, h2⟩, h5, h6, h7⟩
  exact h m σ' kf' ef' h1 h2 h5 h6
theorem pW {ns : List Int} {K : List Str} {kf : List (Str × V)} {f : Addr} {ef : Nat} {m₀ : bb} {σ₀ : ah} {Q : V → ah → Prop} (hK : Kp K) (xf : σ₀ f = some (.dict kf ef)) (hin : Inn K kf) (mf : m₀ "files" = some (.ref f)) (h : ∀ σ', Grow σ₀ σ' → Q (.ref f) σ') :
  aq (fN ns) (aq (fM ns) au) m₀ σ₀ (fin Q) := by
 rw [aj]
 simp [fN, mf, cO xf]
 refine aZ (fun i m σ' => Grow σ₀ σ' ∧ m "files" = some (.ref f)) (fun _ _ _ => False) (fun j m σ' h => h.1 _ _ xf) _ ?_ ?_ (fun _ _ _ h => h.elim) _ _ ⟨Grow.refl, mf⟩
 ·rintro i v m σ' Q' hv ⟨h1, mf⟩ n1 n2 n3
  obtain ⟨y, hy, rfl⟩ := gI hv
  refine ⟨_, rfl, ?_⟩
  have hyk := hin.sub y (List.mem_of_getElem? hy)
  rw [aj]
  simp
  refine qB (hK.len y hyk) fun r σ₅ g5 hr xr => ?_
  rw [a7 xr]
  refine mI (g5 _ _ (h1 _ _ xf)) xr (by simp [mf]) (fun u hu hk => hK.abv y hyk u hu (hin.sub u hk)) fun m₅ ho => ?_
  rw [aQ]
  simp
  exact n1 _ _ ⟨h1.trans g5, (ho _ (by decide)).trans (by simp [mf])⟩
 ·rintro m σ' ⟨h1, mf⟩
  rw [aQ, aj]
  simp [fM, mf]
  exact h σ' h1
theorem qF (ns : List Int) : ∀ vs σ Q, sp_joined ns vs σ Q → vs.length = 4 ∧ gk ns (aC ["elder", "one", "other", "picks"] vs aH) σ (fin Q) := by
 rintro vs σ Q ⟨K, a, b, c, ka, kb, kc, e1, e2, e3, p, pk, ep, rfl, d, xp, hP, q⟩
 refine ⟨rfl, ?_⟩
 unfold gk
 rw [aj]
 simp [jq]
 intro kn en hkn
 have g1 : Grow σ (aY σ kn (.dict [] en)) := Grow.refl.upd hkn
 have xk := an σ kn (.dict [] en)
 generalize (aY σ kn (.dict [] en)) = σ₁ at g1 xk ⊢
 show aq _ _ _ _ _
 rw [aj]
 simp [jp]
 refine tG (d.grow g1) fun xs hxs hxl l σ₂ g2 hl xl => ?_
 rw [a7 xl]
 have hlk : l ≠ kn := by rintro rfl; rw [xk] at hl; cases hl
 have hpk : p ≠ kn := by rintro rfl; rw [xp] at hkn; cases hkn
 have xk2 := g2 _ _ xk
 have xsK : ∀ x ∈ xs, x ∈ K := fun x hx => d.key (k8 ((hxs x).mp hx))
 refine aZ (fun i m σ' => (∃ fk ef, σ' kn = some (.dict fk ef) ∧ Fnd K fk (xs.take i)) ∧ (∀ z, z ≠ kn → σ' z = σ₂ z) ∧ m "known" = some (.ref kn) ∧ m "elder" = some (.ref a) ∧ m "one" = some (.ref b) ∧ m "other" = some (.ref c) ∧ m "picks" = some (.ref p)) (fun _ _ _ => False)
  (fun i m σ' ⟨_, h, _⟩ => by rw [h l hlk]; exact xl) _ ?_ ?_ (fun _ _ _ h => h.elim) _ _ ⟨⟨[], en, xk2, List.nodup_nil, fun _ => Iff.rfl, fun _ h => (nomatch h)⟩, fun _ _ => rfl, by simp, by simp, by simp, by simp, by simp⟩
 ·rintro i v m σ' Q' hv ⟨⟨fk, ef, h1, h2⟩, h5, mk, me, mo, mt, mp⟩ n1 n2 n3
  obtain ⟨y, hy, rfl⟩ := og hv
  refine ⟨_, rfl, ?_⟩
  rw [aj]
  simp
  refine ⟨trivial, _, rfl, ?_⟩
  rw [aj]
  simp [mk]
  refine df h1 (Nat.lt_of_le_of_lt (h2.len d.un) (by decide)) fun ep2 => ?_
  refine ⟨trivial, ?_⟩
  rw [aQ]
  simp
  refine n1 _ _ ⟨⟨_, ep2, an _ _ _, ?_⟩, fun z hz => by rw [az hz]; exact h5 z hz, by simp [mk], by simp [me], by simp [mo], by simp [mt], by simp [mp]⟩
  rw [List.take_add_one, hy]
  exact h2.put (xsK y (List.mem_of_getElem? hy))
 rintro m σ₃ ⟨⟨fk, ef, xk3, h2⟩, h5, mk, me, mo, mt, mp⟩
 rw [List.length_map, List.take_length] at h2
 have ne : ∀ {z : Addr} {o : AObj}, σ z = some o → z ≠ kn := fun {z o} h => by rintro rfl; rw [hkn] at h; cases h
 have g3 : Grow σ σ₃ := fun z o e => by rw [h5 z (ne e)]; exact g2 _ _ (g1 _ _ e)
 have n3 : ∀ z, σ₃ z = Option.none → σ z = Option.none := fun z e => g3.none e
 have xp3 := g3 _ _ xp
 rw [aQ, aj]
 simp [jo, mp, cO xp3]
 refine aZ (fun i m σ' => σ' = σ₃ ∧ m "known" = some (.ref kn) ∧ m "elder" = some (.ref a) ∧ m "one" = some (.ref b) ∧ m "other" = some (.ref c) ∧ m "picks" = some (.ref p)) (fun _ _ _ => False)
  (fun i m σ' h => by rw [h.1]; exact xp3) _ ?_ ?_ (fun _ _ _ h => h.elim) _ _ ⟨rfl, mk, me, mo, mt, mp⟩
 ·rintro i v m σ' Q' hv ⟨rfl, mk, me, mo, mt, mp⟩ n1 n2 n3
  obtain ⟨y, hy, rfl⟩ := gI hv
  have hyk : y ∈ fk.map (·.1) := (h2.mem y).mpr ((hxs y).mpr ((hP.mem y).mp (List.mem_of_getElem? hy)))
  refine ⟨_, rfl, ?_⟩
  rw [aj]
  simp [mk]
  refine fH xk3 ?_
  rw [bZ, decide_eq_true hyk]
  simp
  exact n1 _ _ ⟨rfl, by simp [mk], by simp [me], by simp [mo], by simp [mt], by simp [mp]⟩
 rintro m σ' ⟨rfl, mk, me, mo, mt, mp⟩
 rw [aQ, aj]
 simp [jm, me, mo, mt]
 refine qz (d.grow g3) fun xs4 hxs4 _ l4 σ₄ g4 hl4 xl4 => ?_
 rw [a7 xl4]
 have xp4 := g4 _ _ xp3
 refine aZ (fun i m σ' => σ' = σ₄ ∧ m "elder" = some (.ref a) ∧ m "one" = some (.ref b) ∧ m "other" = some (.ref c) ∧ m "picks" = some (.ref p)) (fun _ _ _ => False)
  (fun i m σ' h => by rw [h.1]; exact xl4) _ ?_ ?_ (fun _ _ _ h => h.elim) _ _ ⟨rfl, me, mo, mt, mp⟩
 ·rintro i v m σ' Q' hv ⟨rfl, me, mo, mt, mp⟩ n1 n2 n3
  obtain ⟨y, hy, rfl⟩ := fV hv
  have hyk : y ∈ pk.map (·.1) := (hP.mem y).mpr ((hxs4 y).mp (List.mem_of_getElem? hy))
  refine ⟨_, rfl, ?_⟩
  rw [aj]
  simp [mp]
  refine fH xp4 ?_
  rw [bZ, decide_eq_true hyk]
  simp
  exact n1 _ _ ⟨rfl, by simp [me], by simp [mo], by simp [mt], by simp [mp]⟩
 rintro m σ' ⟨rfl, me, mo, mt, mp⟩
 have g34 := g3.trans g4
 rw [aQ, aj]
 simp [jl, me, mo, mt]
 refine tE (d.grow g34) fun f kf ef5 σ₅ g5 hf xf hin => ?_
 have g35 := g34.trans g5
 have xp5 := g5 _ _ xp4
 have hpf : p ≠ f := by rintro rfl; rw [xp4] at hf; cases hf
 have hfn : σ f = Option.none := g34.none hf
 rw [aj]
 simp [jk, mp, cO xp5]
 refine pD d.un hP.val (hP.len d) xp5 xf hpf hin (by simp [mp]) (by simp) fun m₆ σ₆ kf' ef' xf6 hin6 h6 mf => ?_
 rw [aQ]
 refine pW d.un xf6 hin6 mf fun σ₇ g7 => ?_
 refine q f kf' ef' σ₇ (fun z o e => ?_) hfn (g7 _ _ xf6) hin6
 have hz : z ≠ f := by rintro rfl; rw [hfn] at e; cases e
 exact g7 _ _ (by rw [h6 z hz]; exact g35 _ _ e)
theorem Near.uniq {ps : List (List Int)} {n m M N : Int} (h : Near ps n m M) (h' : Near ps n m N) : M = N := Int.le_antisymm (h'.max _ h.a1 h.a2) (h.max _ h'.a1 h'.a2)
theorem so (ns : List Int) : ∀ vs σ Q, sp_merge ns vs σ Q → vs.length = 4 ∧ iE ns (aC ["self", "one", "other", "picks"] vs aH) σ (fin Q) := by
 rintro vs σ Q ⟨K, b, t, mo, ads, ts, ps, n, k, p, pk, ep, M, ke, kn, km, rfl, B, h0, h1, k0, k1, hne, xp, hN, he, hn, hk, hP, hz, q⟩
 refine ⟨rfl, ?_⟩
 unfold iE
 rw [aj]
 simp [j5, ba B]
 refine eV B h0 h1 ?_
 rw [aj]
 simp [j4, ba B]
 refine eV B k0 k1 ?_
 rw [aj]
 simp [j3, hne]
 rw [aj]
 simp [j2, ba B]
 refine ⟨K, b, t, mo, ads, ts, ps, n, k, rfl, B, h0, h1, k0, k1, fun M' σ₁ g1 hN' => ?_⟩
 cases hN.uniq hN'
 have B1 := B.grow g1
 have hM := hN.a1.le B.ord.lt h0
 rw [aj]
 simp [j1, cV B1]
 refine B1.itemT hM.1 he fun d1 e1 x1 => ?_
 try simp [cV B1]
 refine B1.itemT h0 hn fun d2 e2 x2 => ?_
 try simp [cV B1]
 refine B1.itemT k0 hk fun d3 e3 x3 => ?_
 try simp
 refine ⟨K, d1, d2, d3, ke, kn, km, e1, e2, e3, p, pk, ep, rfl, ⟨x1, x2, x3, B.tree _ (List.mem_of_getElem? he), B.tree _ (List.mem_of_getElem? hn), B.tree _ (List.mem_of_getElem? hk), B.un⟩, g1 _ _ xp, hP, fun f kf ef σ₂ g2 hf xf hin => ?_⟩
 have B2 := B1.grow g2
 rw [aj]
 simp [j0, ba B2]
 refine ⟨K, b, t, mo, ads, ts, ps, f, kf, ef, [min n k, max n k], rfl, B2, xf, hin, hz, by simp, by simp, fun x hx => ?_, fun σ₃ KK B3 => ?_⟩
 ·simp at hx
  rcases hx with rfl | rfl <;> omega
 ·exact q _ _ _ σ₃ ((g1.trans g2).keep KK) B3 (by simp)
end Mine
end
noncomputable section
set_option maxHeartbeats 1000000
namespace Mine
open PySem PySem.W PyProof.Rows PySem.Calls
theorem sj (ns : List Int) : ∀ vs σ Q, sp__law_whole ns vs σ Q → vs.length = 1 ∧ cF ns (aC ["_law_found"] vs aH) σ (fin Q) := by
 rintro vs σ Q ⟨n, rfl, q⟩
 refine ⟨rfl, ?_⟩
 unfold cF
 rw [aj]
 simp [eh]
 exact q
@[simp] theorem vM {ns : List Int} {σ : ah} {Q : V → ah → Prop} {n : Int} : sp__law_whole ns [.int n] σ Q = Q (.bool true) σ := propext ⟨fun ⟨_, e, q⟩ => q, fun h => ⟨_, rfl, h⟩⟩
theorem uh (ns : List Int) : ∀ vs σ Q, sp__law_cell_at ns vs σ Q → vs.length = 2 ∧ ci ns (aC ["_law_script", "_law_k"] vs aH) σ (fin Q) := by
 rintro vs σ Q ⟨k, rfl, h0, q⟩
 refine ⟨rfl, ?_⟩
 simp [ci, dp, dn, aj]
 split
 ·rename_i h; exact p7 h0 h q
 ·rename_i h; rw [rP h0 h] at q; exact q
theorem q9 {σ : ah} {Q : V → ah → Prop} {a : Addr} {v : V} {n : Int} (h : σ a = some (.list [v])) (h0 : 0 ≤ n) (h1 : n ≤ 1000) (q : cR (List.replicate n.toNat v) σ Q) : nv (.ref a) (.int n) σ Q := ⟨v, h, h0, h1, q⟩
noncomputable def rr (v : V) (F : Int → Option V) : Option V := match v with | .int x => F x | _ => Option.none
theorem kO (p : Int → Bool) : ∀ l : List Int, (l.map V.int).filterMap (fun v => rr v fun x => if p x then some v else Option.none) = (l.filter p).map V.int
 | [] => rfl
 | x :: r => by
  have ih := kO p r
  rw [List.map_cons, List.filterMap_cons]
  have e : rr (V.int x) (fun y => if p y then some (V.int x) else Option.none) = if p x then some (V.int x) else Option.none := rfl
  rw [e]
  cases h : p x with
  | true => rw [List.filter_cons_of_pos h, if_pos rfl, ih]; rfl
  | false => rw [List.filter_cons_of_neg (by rw [h]; exact Bool.false_ne_true), if_neg Bool.false_ne_true, ih]
theorem de {bs : List Bool} {i k : Nat} (hi : i < bs.length) : (bs.set i true)[k]? = some true ↔ k = i ∨ bs[k]? = some true := by
 rw [List.getElem?_set]
 split
 ·rename_i h; subst h
  exact ⟨fun _ => .inl rfl, fun _ => rfl⟩
 ·rename_i h
  exact ⟨.inr, fun z => z.elim (fun e => absurd e.symm h) id⟩
theorem oO {bs : List Bool} {σ : ah} {a : Addr} {k : Int} {ns : List Int} {Q : V → ah → Prop} (h : σ a = some (.list (bs.map .bool))) (h0 : 0 ≤ k) (hk : k.toNat < bs.length) (q : ∀ c, bs[k.toNat]? = some c → Q (.bool c) σ) : aG ns (.ref a) (.int k) σ Q :=
 bo h h0 (v := .bool bs[k.toNat]) (by rw [List.getElem?_map, List.getElem?_eq_getElem hk]; rfl) (q _ (List.getElem?_eq_getElem hk))
theorem mx {bs : List Bool} {σ : ah} {a : Addr} {k : Int} {c : Bool} {R : ah → Prop} (h : σ a = some (.list (bs.map .bool))) (h0 : 0 ≤ k) (hk : k.toNat < bs.length) (q : R (aY σ a (.list ((bs.set k.toNat c).map .bool)))) : qE (.ref a) (.int k) (.bool c) σ R :=
 po h h0 (by rw [List.length_map]; exact hk) (by rwa [← List.map_set])
structure Kn (ps : List (List Int)) (n : Nat) (i : Nat) (bs : List Bool) : Prop where
 len : bs.length = ps.length
 anc : ∀ k : Nat, bs[k]? = some true → Anc ps n k
 self : bs[n]? = some true
 up : ∀ k : Nat, bs[k]? = some true → n < k + i → ∀ l, ps[k]? = some l → ∀ p ∈ l, bs[p.toNat]? = some true
theorem Kn.all {ps : List (List Int)} {n : Nat} {bs : List Bool} (K : Kn ps n (n + 1) bs) : ∀ x, Anc ps n x → bs[x.toNat]? = some true := by
 intro x h
 have key : ∀ {y x : Int}, Anc ps y x → bs[y.toNat]? = some true → bs[x.toNat]? = some true := by
  intro y x h
  induction h with
  | self _ => exact id
  | up h1 h2 _ ih => intro hy; exact ih (K.up _ hy (Nat.lt_of_lt_of_le (Nat.lt_succ_self _) (Nat.le_add_left _ _)) _ h1 _ h2)
 exact key h (by rw [Int.toNat_natCast]; exact K.self)
theorem sr (ns : List Int) : ∀ vs σ Q, sp__law_known ns vs σ Q → vs.length = 2 ∧ cH ns (aC ["_law_book", "_law_number"] vs aH) σ (fin Q) := by
 rintro vs σ Q ⟨K, b, t, mo, ads, ts, ps, n, rfl, B, h0, h1, q⟩
 refine ⟨rfl, ?_⟩
 have ho := B.ord
 have few := ho.few
 have lenP := B.lenP
 obtain ⟨n, rfl⟩ := Int.eq_ofNat_of_zero_le h0
 have hn : n < ps.length := by rw [lenP]; exact Int.ofNat_lt.mp h1
 unfold cH
 rw [aj]
 simp [et]
 intro z hz
 have g0 : Grow σ (aY σ z (.list [.bool false])) := Grow.refl.upd hz
 have xz := an σ z (.list [.bool false])
 generalize (aY σ z (.list [.bool false])) = σ₁ at g0 xz ⊢
 have B1 := B.grow g0
 simp [ba B1]
 refine ⟨K, b, t, mo, ads, ts, ps, rfl, B1, ?_⟩
 rw [← lenP]
 refine q9 xz (Int.natCast_nonneg _) (by omega) fun k hk => ?_
 have e1 : List.replicate ((ps.length : Int)).toNat (V.bool false) = (List.replicate ps.length false).map V.bool := by rw [List.map_replicate, Int.toNat_natCast]
 rw [e1]
 have hkn := g0.none hk
 have g1 : Grow σ (aY σ₁ k (.list ((List.replicate ps.length false).map V.bool))) := g0.upd hk
 have xk := an σ₁ k (.list ((List.replicate ps.length false).map V.bool))
 generalize (aY σ₁ k (.list ((List.replicate ps.length false).map V.bool))) = σ₂ at g1 xk ⊢
 have hlr : n < (List.replicate ps.length false).length := by rw [List.length_replicate]; exact hn
 rw [aj]
 simp [er]
 refine mx xk (Int.natCast_nonneg _) (by rw [Int.toNat_natCast]; exact hlr) ?_
 rw [Int.toNat_natCast]
 have g2 : Grow σ (aY σ₂ k (.list (((List.replicate ps.length false).set n true).map V.bool))) := g1.over hkn
 have xk2 := an σ₂ k (.list (((List.replicate ps.length false).set n true).map V.bool))
 generalize (aY σ₂ k (.list (((List.replicate ps.length false).set n true).map V.bool))) = σ₃ at g2 xk2 ⊢
 have K0 : Kn ps n 0 ((List.replicate ps.length false).set n true) := by
  have only : ∀ k : Nat, ((List.replicate ps.length false).set n true)[k]? = some true → k = n := fun k h => by
   rcases (de hlr).mp h with h | h
   ·exact h
   ·rw [List.getElem?_replicate] at h; split at h <;> cases h
  refine ⟨by simp, fun k h => ?_, (de hlr).mpr (.inl rfl), fun k h hi l hl p hp => ?_⟩
  ·rw [only k h]; exact .self _
  ·rw [only k h] at hi; exact absurd hi (Nat.lt_irrefl _)
 rw [aj]
 simp [eo]
 refine ⟨by omega, ?_⟩
 refine aZ (fun i m σ' => ∃ bs, σ' k = some (.list (bs.map .bool)) ∧ Grow σ σ' ∧ Kn ps n i bs ∧ m "_law_book" = some (.ref b) ∧ m "_law_known_here" = some (.ref k) ∧ m "_law_number" = some (.int n)) (fun _ _ _ => False)
  (fun _ _ _ _ => trivial) _ ?_ ?_ (fun _ _ _ h => h.elim) _ _ ⟨_, xk2, g2, K0, by simp, by simp, by simp⟩
 ·rintro i v m σ' Q' hv ⟨bs, hb, g, Kk, mb, mk, mn⟩ n1 n2 n3
  obtain ⟨hi, rfl⟩ := dg hv
  have hin : i ≤ n := by omega
  have B' := B.grow g
  refine ⟨_, rfl, ?_⟩
  rw [aj]
  simp [mn]
  have hj0 : (0 : Int) ≤ (n : Int) - (i : Int) := Int.sub_nonneg_of_le (Int.ofNat_le.mpr hin)
  have hjn : ((n : Int) - (i : Int)).toNat = n - i := by omega
  have hjl : n - i < ps.length := Nat.lt_of_le_of_lt (Nat.sub_le _ _) hn
  rw [aj]
  simp [mk]
  refine oO hb hj0 (by rw [hjn, Kk.len]; exact hjl) fun c hc => ?_
  rw [hjn] at hc
  simp
  cases c with
  | false =>
   simp
   refine n1 _ _ ⟨bs, hb, g, ⟨Kk.len, Kk.anc, Kk.self, fun k' h hle l hl p hp => ?_⟩, by simp [mb], by simp [mk], by simp [mn]⟩
   by_cases hk' : k' = n - i
   ·subst hk'; rw [hc] at h; cases h
   ·exact Kk.up k' h (by omega) l hl p hp
  | true =>
   obtain ⟨l, hl⟩ : ∃ l, ps[n - i]? = some l := ⟨_, List.getElem?_eq_getElem hjl⟩
   have hlo := ho.lt _ _ hl
   simp
   rw [aj]
   simp [mb, ba B']
   refine ⟨K, b, t, mo, ads, ts, ps, _, l, rfl, B', hj0, by rw [hjn]; exact hl, ?_⟩
   try simp
   refine aZ (fun j m σ'' => ∃ bs', σ'' k = some (.list (bs'.map .bool)) ∧ Grow σ σ'' ∧ m "_law_book" = some (.ref b) ∧ m "_law_known_here" = some (.ref k) ∧ m "_law_number" = some (.int n) ∧ bs'.length = ps.length ∧ (∀ k' : Nat, bs[k']? = some true → bs'[k']? = some true) ∧ (∀ k' : Nat, bs'[k']? = some true → bs[k']? = some true ∨ (k' : Int) ∈ l) ∧ (∀ p ∈ l.take j, bs'[p.toNat]? = some true))
    (fun _ _ _ => False) (fun _ _ _ _ => trivial) _ ?_ ?_ (fun _ _ _ h => h.elim) _ _ ⟨bs, hb, g, by simp [mb], by simp [mk], by simp [mn], Kk.len, fun _ h => h, fun _ h => .inl h, by simp⟩
   ·rintro j v m σ'' Q'' hv ⟨bs', hb', g', mb', mk', mn', c1, c2, c3, c4⟩ r1 r2 r3
    obtain ⟨p, hp, rfl⟩ := nJ hv
    have hpl := List.mem_of_getElem? hp
    have hpo := hlo p hpl
    have hpn : p.toNat < bs'.length := by rw [c1]; omega
    refine ⟨_, rfl, ?_⟩
    simp [aj, mk']
    refine mx hb' hpo.1 hpn ?_
    refine r1 _ _ ⟨_, an _ _ _, g'.over hkn, by simp [mb'], by simp [mk'], by simp [mn'], by rw [List.length_set]; exact c1, fun k' h => (de hpn).mpr (.inr (c2 k' h)), fun k' h => ?_, fun y hy => ?_⟩
    ·rcases (de hpn).mp h with rfl | h
     ·rw [Int.toNat_of_nonneg hpo.1]; exact .inr hpl
     ·exact c3 k' h
    ·rw [List.take_add_one, hp] at hy
     rcases List.mem_append.mp hy with hy | hy
     ·exact (de hpn).mpr (.inr (c4 y hy))
     ·simp at hy; subst hy; exact (de hpn).mpr (.inl rfl)
   ·rintro m σ'' ⟨bs', hb', g', mb', mk', mn', c1, c2, c3, c4⟩
    rw [List.length_map, List.take_length] at c4
    try simp
    refine n1 _ _ ⟨bs', hb', g', ⟨c1, fun k' h => ?_, c2 _ Kk.self, fun k' h hle l' hl' p hp => ?_⟩, mb', mk', mn'⟩
    ·rcases c3 k' h with h | h
     ·exact Kk.anc k' h
     ·exact (Kk.anc _ hc).step (l := l) (by rw [Int.toNat_natCast]; exact hl) h
    ·by_cases hk' : k' = n - i
     ·subst hk'; rw [hl] at hl'; cases hl'; exact c4 p hp
     ·rcases c3 k' h with h | h
      ·exact c2 _ (Kk.up k' h (by omega) l' hl' p hp)
      ·have := hlo _ h; omega
 ·rintro m σ' ⟨bs, hb, g, Kk, mb, mk, mn⟩
  rw [cL] at Kk
  rw [aQ, aj]
  simp [ek, mk]
  refine q bs (by rw [← lenP]; exact Kk.len) (fun k' c hc => ⟨fun h => Kk.anc k' (h ▸ hc), fun h => ?_⟩) k σ' g hkn hb
  have := Kk.all _ h
  rw [Int.toNat_natCast, hc] at this
  exact Option.some.inj this
end Mine
end
noncomputable section
set_option maxHeartbeats 1000000
namespace Mine
open PySem PySem.W PyProof.Rows PySem.Calls
theorem pi : ∀ {xs ys : List Int}, xs.Pairwise (· < ·) → ys.Pairwise (· < ·) → (∀ x, x ∈ xs ↔ x ∈ ys) → xs = ys := by
 intro xs ys hx hy h
 have nx : xs.Nodup := by rw [List.nodup_iff_pairwise_ne]; exact hx.imp fun h => Int.ne_of_lt h
 have ny : ys.Nodup := by rw [List.nodup_iff_pairwise_ne]; exact hy.imp fun h => Int.ne_of_lt h
 exact dA ((List.perm_ext_iff_of_nodup nx ny).mpr h) (hx.imp fun h => Int.le_of_lt h) (hy.imp fun h => Int.le_of_lt h)
theorem Sto.uniq {ts : List (List (Str × V))} {ps : List (List Int)} {n : Int} {x : Str} {xs ys : List Int} (a : Sto ts ps n x xs) (b : Sto ts ps n x ys) : xs = ys := pi a.lt b.lt fun e => (a.mem e).trans (b.mem e).symm
noncomputable def tr (ts : List (List (Str × V))) (p : Int) : List (Str × V) := (ts[p.toNat]?).getD []
theorem qv {ts : List (List (Str × V))} {p : Int} {kp : List (Str × V)} (h : ts[p.toNat]? = some kp) : tr ts p = kp := by unfold tr; rw [h]; rfl
noncomputable def jN (ts : List (List (Str × V))) (x : Str) (l : List Int) (kvs : List (Str × V)) : List Int := l.filter fun p => decide (gS (tr ts p) x = gS kvs x)
theorem oF {ts : List (List (Str × V))} {ps : List (List Int)} {x : Str} {e : Int} {l : List Int} {kvs : List (Str × V)} (hl : ps[e.toNat]? = some l) (hk : ts[e.toNat]? = some kvs) (hp : ∀ p ∈ l, ∃ kp, ts[p.toNat]? = some kp) : im ts ps x e ↔ l ≠ [] ∧ jN ts x l kvs = [] := by
 constructor
 ·rintro ⟨l', kvs', h1, h2, h3, h4⟩
  rw [hl] at h1; cases h1
  rw [hk] at h2; cases h2
  refine ⟨h3, List.filter_eq_nil_iff.mpr fun p hm => ?_⟩
  obtain ⟨kp, hkp⟩ := hp p hm
  rw [qv hkp, decide_eq_true_iff]
  exact h4 p hm kp hkp
 ·rintro ⟨h3, h4⟩
  refine ⟨l, kvs, hl, hk, h3, fun p hm kp hkp => ?_⟩
  have := List.filter_eq_nil_iff.mp h4 p hm
  rw [qv hkp, decide_eq_true_iff] at this
  exact this
theorem ix {ts : List (List (Str × V))} {x : Str} {p : Int} {kvs kp : List (Str × V)} (hkp : ts[p.toNat]? = some kp) : (rr (V.int p) fun y => if decide (gS (tr ts y) x = gS kvs x) then some (V.int p) else Option.none) = if gS kp x = gS kvs x then some (V.int p) else Option.none := by
 show (if decide (gS (tr ts p) x = gS kvs x) then _ else _) = _
 rw [qv hkp]
 by_cases h : gS kp x = gS kvs x
 ·rw [if_pos h, if_pos (decide_eq_true h)]
 ·rw [if_neg h, if_neg (by rw [decide_eq_false h]; exact Bool.false_ne_true)]
section
variable {K : List Str} {σ σ' : ah} {b t mo : Addr} {ads : List Addr} {ts : List (List (Str × V))} {ps : List (List Int)} {Q : V → ah → Prop}
theorem BookAt.tree_at (B : BookAt K σ b t mo ads ts ps) {p : Int} (h0 : 0 ≤ p) (h1 : p < (ts.length : Int)) : ∃ kp, ts[p.toNat]? = some kp := ⟨_, List.getElem?_eq_getElem (i0 h0 h1)⟩
theorem BookAt.made (B : BookAt K σ b t mo ads ts ps) {e : Int} (h0 : 0 ≤ e) (h1 : e < (ts.length : Int)) : ∃ l, ps[e.toNat]? = some l ∧ l.length ≤ 2 ∧ (∀ p ∈ l, 0 ≤ p ∧ p < e) ∧ (∀ p ∈ l, ∃ kp, ts[p.toNat]? = some kp) := by
 have hl : e.toNat < ps.length := by rw [B.lenP]; exact i0 h0 h1
 have hg : ps[e.toNat]? = some ps[e.toNat] := List.getElem?_eq_getElem hl
 have hlt : ∀ p ∈ ps[e.toNat], 0 ≤ p ∧ p < e := fun p hp => by
  have := B.ord.lt _ _ hg p hp
  rwa [Int.toNat_of_nonneg h0] at this
 exact ⟨_, hg, B.ord.two _ _ hg, hlt, fun p hp => B.tree_at (hlt p hp).1 (Int.lt_trans (hlt p hp).2 h1)⟩
end
structure Tl (ts : List (List (Str × V))) (ps : List (List Int)) (x : Str) (P : Int → Prop) (es : List Int) (i : Nat) : Prop where
 lt : es.Pairwise (· < ·)
 mem : ∀ e, e ∈ es ↔ P e ∧ im ts ps x e
 len : es.length ≤ i
theorem Tl.skip {ts : List (List (Str × V))} {ps : List (List Int)} {x : Str} {P P' : Int → Prop} {es : List Int} {i : Nat} {e : Int} (h : Tl ts ps x P es i) (hP : ∀ y, P' y ↔ P y ∨ y = e) (hn : ¬ im ts ps x e) : Tl ts ps x P' es (i + 1) :=
 ⟨h.lt, fun y => (h.mem y).trans ⟨fun z => ⟨(hP y).mpr (.inl z.1), z.2⟩, fun z => ((hP y).mp z.1).elim (fun w => ⟨w, z.2⟩) fun w => absurd (w ▸ z.2) hn⟩, Nat.le_succ_of_le h.len⟩
theorem Tl.drop {ts : List (List (Str × V))} {ps : List (List Int)} {x : Str} {P P' : Int → Prop} {es : List Int} {i : Nat} (h : Tl ts ps x P es i) (hP : ∀ y, P' y ↔ P y) : Tl ts ps x P' es (i + 1) :=
 ⟨h.lt, fun y => (h.mem y).trans (and_congr (hP y).symm Iff.rfl), Nat.le_succ_of_le h.len⟩
theorem Tl.add {ts : List (List (Str × V))} {ps : List (List Int)} {x : Str} {P P' : Int → Prop} {es : List Int} {i : Nat} {e : Int} (h : Tl ts ps x P es i) (hP : ∀ y, P' y ↔ P y ∨ y = e) (hl : ∀ y, P y → y < e) (hn : im ts ps x e) : Tl ts ps x P' (es ++ [e]) (i + 1) :=
 ⟨List.pairwise_append.mpr ⟨h.lt, List.pairwise_singleton _ _, fun a ha c hc => by rw [List.mem_singleton.mp hc]; exact hl a ((h.mem a).mp ha).1⟩, fun y => by
  rw [List.mem_append, List.mem_singleton, h.mem, hP]
  exact ⟨fun z => z.elim (fun w => ⟨.inl w.1, w.2⟩) fun w => ⟨.inr w, w ▸ hn⟩, fun z => z.1.elim (fun w => .inl ⟨w, z.2⟩) .inr⟩, by rw [List.length_append]; exact Nat.succ_le_succ h.len⟩
theorem sk (ns : List Int) : ∀ vs σ Q, sp_story ns vs σ Q → vs.length = 3 ∧ iD ns (aC ["self", "number", "path"] vs aH) σ (fin Q) := by
 rintro vs σ Q ⟨K, b, t, mo, ads, ts, ps, n, x, rfl, B, h0, h1, q⟩
 refine ⟨rfl, ?_⟩
 have ho := B.ord
 have few := ho.few
 have lenP := B.lenP
 have n1' : n < ps.length := by rw [lenP]; exact h1
 unfold iD
 rw [aj]
 simp [jZ]
 intro w hw
 have g0 : Grow σ (aY σ w (.list [])) := Grow.refl.upd hw
 have xw := an σ w (.list [])
 generalize (aY σ w (.list [])) = σ₁ at g0 xw ⊢
 show aq _ _ _ _ _
 rw [aj]
 have B1 := B.grow g0
 simp [jY, ba B1]
 refine nU B1 h0 h1 fun xs E l σ₂ g2 hl xl => ?_
 have hll := E.len ho h0 n1'
 rw [a7 xl]
 have hlw : l ≠ w := by rintro rfl; rw [xw] at hl; cases hl
 have xw2 := g2 _ _ xw
 have g02 := g0.trans g2
 have gr : ∀ {σ' : ah}, Keep [w] σ₂ σ' → Grow σ σ' := fun k z o e => k z o (g02 z o e) (by rw [List.mem_singleton]; rintro rfl; rw [hw] at e; cases e)
 refine aZ (fun i m σ' => ∃ es : List Int, Keep [w] σ₂ σ' ∧ σ' w = some (.list (es.map .int)) ∧ Tl ts ps x (· ∈ xs.take i) es i ∧ m "told" = some (.ref w) ∧ m "self" = some (.ref b) ∧ m "path" = some (.str x)) (fun _ _ _ => False)
  (fun i m σ' ⟨_, h, _⟩ => h _ _ xl (by simpa using hlw)) _ ?_ ?_ (fun _ _ _ h => h.elim) _ _ ⟨[], fun _ _ e _ => e, xw2, ⟨List.Pairwise.nil, fun e => ⟨fun h => (nomatch h), fun h => (nomatch h.1)⟩, Nat.le_refl _⟩, by simp, by simp, by simp⟩
 ·rintro i v m σ' Q' hv ⟨es, k, hes, T, mt, ms, mp⟩ n1 n2 n3
  obtain ⟨e, he, rfl⟩ := nJ hv
  have hi : i < xs.length := (List.getElem?_eq_some_iff.mp he).1
  have hxe := List.mem_of_getElem? he
  have hle := ((E.mem e).mp hxe).le ho.lt h0
  have he1 : e < (ts.length : Int) := Int.lt_of_le_of_lt hle.2 h1
  obtain ⟨kvs, hk⟩ := B.tree_at hle.1 he1
  obtain ⟨pl, hpl, hp2, hplt, hpk⟩ := B.made hle.1 he1
  have tke : ∀ y, y ∈ xs.take (i + 1) ↔ y ∈ xs.take i ∨ y = e := fun y => by rw [List.take_add_one, he, List.mem_append]; simp
  have tkl : ∀ y, y ∈ xs.take i → y < e := fun y hy => by
   obtain ⟨j, hj, rfl⟩ := List.mem_take_iff_getElem.mp hy
   obtain ⟨hi', rfl⟩ := List.getElem?_eq_some_iff.mp he
   exact List.pairwise_iff_getElem.mp E.lt j i _ _ (Nat.lt_of_lt_of_le hj (Nat.min_le_left _ _))
  have B' := B.grow (gr k)
  refine ⟨_, rfl, ?_⟩
  rw [aj]
  simp [ms, mp, cV B']
  refine B'.itemT hle.1 hk fun d ep xd => ?_
  refine cy xd (B.tree _ (List.mem_of_getElem? hk)) ?_
  rw [aj]
  simp [ms, lm B']
  refine B'.itemM hle.1 hpl ?_
  refine bH (fun s => s = σ') (fun s hs => trivial) (fun v => rr v fun y => if decide (gS (tr ts y) x = gS kvs x) then some v else Option.none) _ _ _ _ (by simp; omega) ?_ rfl ?_
  ·rintro v hv s Q₁ Q₂ rfl r1 r2
   obtain ⟨p, hp, rfl⟩ := List.mem_map.mp hv
   obtain ⟨kp, hkp⟩ := hpk p hp
   refine ⟨_, rfl, ?_⟩
   simp [ms, mp, cV B']
   refine B'.itemT (hplt p hp).1 hkp fun d2 ep2 xd2 => ?_
   refine cy xd2 (B.tree _ (List.mem_of_getElem? hkp)) ?_
   by_cases he : gS kp x = gS kvs x
   ·simp [he]; exact r1 _ _ rfl (by rw [ix hkp, if_pos he])
   ·simp [he]; exact r2 _ rfl (by rw [ix hkp, if_neg he])
  ·rintro s rfl r hr
   rw [List.nil_append, kO (fun y => decide (gS (tr ts y) x = gS kvs x))]
   have nw := oF (x := x) hpl hk hpk
   change im ts ps x e ↔ pl ≠ [] ∧ jN ts x pl kvs = [] at nw
   have hlk : (pl.filter fun y => decide (gS (tr ts y) x = gS kvs x)) = jN ts x pl kvs := rfl
   rw [hlk]
   generalize jN ts x pl kvs = lk at nw ⊢
   have g3 : Grow s (aY s r (.list (lk.map V.int))) := Grow.refl.upd hr
   have xr := an s r (.list (lk.map V.int))
   generalize (aY s r (.list (lk.map V.int))) = σ₄ at g3 xr ⊢
   have k4 := k.grow g3
   have B4 := B.grow (gr k4)
   have hes4 := g3 _ _ hes
   show aq _ _ _ _ _
   rw [aj]
   simp [ms, lm B4]
   refine B4.itemM hle.1 hpl ?_
   try simp
   refine ⟨_, rfl, rfl, ?_⟩
   have skip : ∀ (m' : bb) (σ'' : ah), Grow σ₄ σ'' → ¬ im ts ps x e → m' "told" = some (.ref w) → m' "self" = some (.ref b) → m' "path" = some (.str x) → Q' .next m' σ'' := fun m' σ'' g hn z1 z2 z3 =>
    n1 _ _ ⟨es, k4.grow g, g _ _ hes4, T.skip tke hn, z1, z2, z3⟩
   by_cases hp0 : pl = []
   ·simp [hp0]
    exact skip _ _ Grow.refl (fun h => (nw.mp h).1 hp0) (by simp [mt]) (by simp [ms]) (by simp [mp])
   ·simp [hp0]
    intro z hz
    have xr5 : aY σ₄ z (.list []) r = some (.list (lk.map V.int)) := by rw [az (by rintro rfl; rw [xr] at hz; cases hz)]; exact xr
    have g5 : Grow σ₄ (aY σ₄ z (.list [])) := Grow.refl.upd hz
    have xz := an σ₄ z (.list [])
    generalize (aY σ₄ z (.list [])) = σ₅ at xr5 g5 xz ⊢
    refine ⟨r, z, _, rfl, rfl, xr5, xz, ?_⟩
    by_cases hk0 : lk = []
    ·have xw5 := g5 _ _ hes4
     simp [hk0, aj, mt, ck xw5]
     refine b5 xw5 (by rw [List.length_map]; have := T.len; omega) ?_
     refine n1 _ _ ⟨es ++ [e], fun y o ey hy => ?_, ?_, T.add tke tkl (nw.mpr ⟨hp0, hk0⟩), by simp [mt], by simp [ms], by simp [mp]⟩
     ·rw [az (by simpa using hy)]; exact k4.grow g5 y o ey hy
     ·rw [an, List.map_append]; rfl
    ·simp [hk0]
     exact skip _ _ g5 (fun h => hk0 (nw.mp h).2) (by simp [mt]) (by simp [ms]) (by simp [mp])
 ·rintro m σ' ⟨es, k, hes, T, mt, ms, mp⟩
  rw [aQ, aj]
  simp [jX, mt]
  refine q es ⟨T.lt, fun e => (T.mem e).trans (and_congr ?_ Iff.rfl)⟩ w σ' (gr k) hw hes
  rw [List.length_map, List.take_length]
  exact E.mem e
theorem qZ {ts : List (List (Str × V))} {ps : List (List Int)} {x : Str} (o : Ord ps) : ¬ im ts ps x 0 := by
 rintro ⟨l, kvs, h1, _, h3, _⟩
 obtain ⟨p, hp⟩ := List.exists_mem_of_ne_nil _ h3
 have := o.lt _ _ h1 p hp
 exact absurd this.2 (Int.not_lt.mpr this.1)
theorem vS (ns : List Int) : ∀ vs σ Q, sp__law_due ns vs σ Q → vs.length = 3 ∧ dG ns (aC ["_law_book", "_law_number", "_law_path"] vs aH) σ (fin Q) := by
 rintro vs σ Q ⟨K, b, t, mo, ads, ts, ps, n, x, rfl, B, h0, h1, q⟩
 refine ⟨rfl, ?_⟩
 have ho := B.ord
 have few := ho.few
 have lenP := B.lenP
 obtain ⟨n, rfl⟩ := Int.eq_ofNat_of_zero_le h0
 have hn : n < ts.length := Int.ofNat_lt.mp h1
 unfold dG
 rw [aj]
 simp [gt]
 refine ⟨K, b, t, mo, ads, ts, ps, n, rfl, B, h0, h1, fun bs hbl hbs kb σ₁ g1 hkb xkb => ?_⟩
 rw [aj]
 simp [gq]
 intro w hw
 have hwn := g1.none hw
 have g2 : Grow σ₁ (aY σ₁ w (.list [])) := Grow.refl.upd hw
 have xw := an σ₁ w (.list [])
 have xkb2 := g2 _ _ xkb
 have hkw : kb ≠ w := by rintro rfl; rw [xkb] at hw; cases hw
 generalize (aY σ₁ w (.list [])) = σ₂ at g2 xw xkb2 ⊢
 have g02 := g1.trans g2
 have gr : ∀ {σ' : ah}, Keep [w] σ₂ σ' → Grow σ σ' := fun k z o e => k z o (g02 z o e) (by rw [List.mem_singleton]; rintro rfl; rw [hwn] at e; cases e)
 show aq _ _ _ _ _
 rw [aj]
 simp [gp]
 refine ⟨by omega, ?_⟩
 refine aZ (fun i m σ' => ∃ es : List Int, Keep [w] σ₂ σ' ∧ σ' w = some (.list (es.map .int)) ∧ Tl ts ps x (fun e => e < 1 + (i : Int) ∧ Anc ps n e) es i ∧ m "_law_due_here" = some (.ref w) ∧ m "_law_book" = some (.ref b) ∧ m "_law_path" = some (.str x) ∧ m "_law_known_here" = some (.ref kb)) (fun _ _ _ => False)
  (fun _ _ _ _ => trivial) _ ?_ ?_ (fun _ _ _ h => h.elim) _ _ ⟨[], fun _ _ e _ => e, xw, ⟨List.Pairwise.nil, fun e => ⟨fun h => (nomatch h), fun h => ?_⟩, Nat.le_refl _⟩, by simp, by simp, by simp, by simp⟩
 ·rintro i v m σ' Q' hv ⟨es, k, hes, T, mt, mb, mp, mk⟩ n1 n2 n3
  obtain ⟨hi, rfl⟩ := dg hv
  have hin : i < n := by omega
  have he0 : (0 : Int) ≤ 1 + (i : Int) := by omega
  have hen : (1 + (i : Int)).toNat = i + 1 := by omega
  have he1 : 1 + (i : Int) < (ts.length : Int) := by omega
  have hec : (1 + (i : Int)) = ((i + 1 : Nat) : Int) := by omega
  obtain ⟨kvs, hk⟩ := B.tree_at he0 he1
  obtain ⟨pl, hpl, hp2, hplt, hpk⟩ := B.made he0 he1
  have hp0 : pl ≠ [] := ho.some _ _ hpl (by rw [hen]; exact Nat.succ_pos _)
  have nw := oF (x := x) hpl hk hpk
  have B' := B.grow (gr k)
  refine ⟨_, rfl, ?_⟩
  rw [aj]
  simp [mb, mp, ba B']
  refine ⟨K, b, t, mo, ads, ts, ps, _, kvs, rfl, B', he0, hk, fun d ep hd => ?_⟩
  have g3 : Grow σ' (aY σ' d (.dict kvs ep)) := Grow.refl.upd hd
  have xd := an σ' d (.dict kvs ep)
  generalize (aY σ' d (.dict kvs ep)) = σ₃ at g3 xd ⊢
  refine cy xd (B.tree _ (List.mem_of_getElem? hk)) ?_
  have k3 := k.grow g3
  have B3 := B.grow (gr k3)
  have hes3 := g3 _ _ hes
  rw [aj]
  simp [mb, mp, ba B3]
  refine ⟨K, b, t, mo, ads, ts, ps, _, pl, rfl, B3, he0, hpl, ?_⟩
  refine bH (fun s => Grow σ₃ s) (fun s hs => trivial) (fun v => rr v fun y => if decide (gS (tr ts y) x = gS kvs x) then some v else Option.none) _ _ _ _ (by simp; omega) ?_ Grow.refl ?_
  ·rintro v hv s Q₁ Q₂ gs r1 r2
   obtain ⟨p, hp, rfl⟩ := List.mem_map.mp hv
   obtain ⟨kp, hkp⟩ := hpk p hp
   have Bs := B3.grow gs
   refine ⟨_, rfl, ?_⟩
   simp [mb, mp, ba Bs]
   refine ⟨K, b, t, mo, ads, ts, ps, _, kp, rfl, Bs, (hplt p hp).1, hkp, fun d2 ep2 hd2 => ?_⟩
   have gs2 := gs.upd (o := .dict kp ep2) hd2
   refine cy (an _ _ _) (B.tree _ (List.mem_of_getElem? hkp)) ?_
   by_cases he : gS kp x = gS kvs x
   ·simp [he]; exact r1 _ _ gs2 (by rw [ix hkp, if_pos he])
   ·simp [he]; exact r2 _ gs2 (by rw [ix hkp, if_neg he])
  ·rintro s gs r hr
   rw [List.nil_append, kO (fun y => decide (gS (tr ts y) x = gS kvs x))]
   have hlk : (pl.filter fun y => decide (gS (tr ts y) x = gS kvs x)) = jN ts x pl kvs := rfl
   rw [hlk]
   generalize jN ts x pl kvs = lk at nw ⊢
   have g4 : Grow σ₃ (aY s r (.list (lk.map V.int))) := gs.upd hr
   have xr := an s r (.list (lk.map V.int))
   generalize (aY s r (.list (lk.map V.int))) = σ₄ at g4 xr ⊢
   have k4 := k3.grow g4
   have hes4 := g4 _ _ hes3
   have xkb4 : σ₄ kb = some (.list (bs.map .bool)) := k4 _ _ xkb2 (by simpa using hkw)
   show aq _ _ _ _ _
   rw [aj]
   simp [mk]
   refine oO xkb4 he0 (by rw [hbl, hen]; omega) fun c hc => ?_
   rw [hen] at hc
   have hA := hbs _ _ hc
   rw [← hec] at hA
   have stepP : ∀ y, (y < 1 + ((i + 1 : Nat) : Int) ∧ Anc ps n y) ↔ ((y < 1 + (i : Int) ∧ Anc ps n y) ∨ (y = 1 + (i : Int) ∧ Anc ps n y)) := fun y => by
    constructor
    ·rintro ⟨a, c⟩
     rcases Int.lt_or_le y (1 + (i : Int)) with h | h
     ·exact .inl ⟨h, c⟩
     ·exact .inr ⟨by omega, c⟩
    ·rintro (⟨a, c⟩ | ⟨a, c⟩)
     ·exact ⟨by omega, c⟩
     ·exact ⟨by omega, c⟩
   simp
   cases c with
   | false =>
    simp
    refine n1 _ _ ⟨es, k4, hes4, T.drop fun y => (stepP y).trans ⟨fun z => z.elim id fun w => absurd (hA.mpr (w.1 ▸ w.2)) Bool.false_ne_true, .inl⟩, by simp [mt], by simp [mb], by simp [mp], by simp [mk]⟩
   | true =>
    have stepE : ∀ y, (y < 1 + ((i + 1 : Nat) : Int) ∧ Anc ps n y) ↔ ((y < 1 + (i : Int) ∧ Anc ps n y) ∨ y = 1 + (i : Int)) := fun y => (stepP y).trans (or_congr Iff.rfl ⟨fun z => z.1, fun z => ⟨z, z ▸ hA.mp rfl⟩⟩)
    simp [bT xr]
    by_cases hk0 : lk = []
    ·simp [hk0, aj, mt, ck hes4]
     refine b5 hes4 (by rw [List.length_map]; have := T.len; omega) ?_
     refine n1 _ _ ⟨es ++ [1 + (i : Int)], fun y o ey hy => ?_, ?_, T.add stepE (fun y z => z.1) (nw.mpr ⟨hp0, hk0⟩), by simp [mt], by simp [mb], by simp [mp], by simp [mk]⟩
     ·rw [az (by simpa using hy)]; exact k4 y o ey hy
     ·rw [an, List.map_append]; rfl
    ·simp [hk0]
     exact n1 _ _ ⟨es, k4, hes4, T.skip stepE fun h => hk0 (nw.mp h).2, by simp [mt], by simp [mb], by simp [mp], by simp [mk]⟩
 ·rintro m σ' ⟨es, k, hes, T, mt, mb, mp, mk⟩
  rw [cL] at T
  rw [aQ, aj]
  simp [gn, mt]
  refine q es ⟨T.lt, fun e => (T.mem e).trans (and_congr ⟨fun z => z.2, fun z => ⟨?_, z⟩⟩ Iff.rfl)⟩ w σ' (gr k) hwn hes
  have := z.le ho.lt h0
  omega
 ·have := h.1.2.le ho.lt h0
  have he : e = 0 := by have := h.1.1; omega
  subst he
  exact absurd h.2 (qZ ho)
end Mine
end
noncomputable section
set_option maxHeartbeats 1000000
namespace Mine
open PySem PySem.W PyProof.Rows PySem.Calls
theorem s8 : (cl tX).length = 65 := by decide +kernel
theorem ua (ns : List Int) : ∀ vs σ Q, sp__law_sign_by ns vs σ Q → vs.length = 1 ∧ cg ns (aC ["_law_k"] vs aH) σ (fin Q) := by
 rintro vs σ Q ⟨k, rfl, q⟩
 refine ⟨rfl, ?_⟩
 have h0 : 0 ≤ k % 65 := Int.emod_nonneg _ (by decide)
 have h1 : k % 65 < 65 := Int.emod_lt_of_pos _ (by decide)
 simp [cg, dm, aj]
 refine rm (by decide +kernel) h0 (c := (cl tX).getD (k % 65).toNat 0) ?_ q
 show (cl tX)[(k % 65).toNat]? = _
 rw [List.getD_eq_getElem?_getD, List.getElem?_eq_getElem (by rw [s8]; omega)]
 rfl
@[simp] theorem wS {ns : List Int} {σ : ah} {Q : V → ah → Prop} {k : Int} : sp__law_sign_by ns [.int k] σ Q = Q (.str (iP k)) σ := propext ⟨fun ⟨_, e, q⟩ => by cases e; exact q, fun h => ⟨_, rfl, h⟩⟩
theorem nG (x y : Str) : (x ++ y).length = x.length + y.length := by rw [jf, cP, List.length_append, ← jf, ← jf]
noncomputable def cd (r : Nat) : Nat := (cl tX).getD r 0
noncomputable def fP (r : Nat) : Str := ⟨#[102, 47, cd r, 102]⟩
noncomputable def gP (r : Nat) : Str := ⟨#[103, cd r]⟩
theorem oN {r : Nat} (hr : r < 65) : cd r ≠ 47 ∧ bN ⟨#[cd r, 102]⟩ = true ∧ bN (gP r) = true := by
 have h : ((List.range 65).all fun r => decide (cd r ≠ 47) && (bN ⟨#[cd r, 102]⟩ && bN (gP r))) = true := by decide +kernel
 have := List.all_eq_true.mp h r (List.mem_range.mpr hr)
 rw [Bool.and_eq_true, Bool.and_eq_true, decide_eq_true_eq] at this
 exact this
theorem mj {r : Nat} (hr : r < 65) : Txt.split (fP r) (Str.ofString "/") = [⟨#[102]⟩, ⟨#[cd r, 102]⟩] := by
 have e : Str.join (Str.ofString "/") [⟨#[102]⟩, ⟨#[cd r, 102]⟩] = fP r := fL (by rw [lG, iC]; rfl)
 rw [← e]
 refine iM (fun x hx => ?_) (by simp)
 have n := (oN hr).1
 rcases List.mem_cons.mp hx with rfl | hx
 ·show 47 ∉ [102]; decide
 ·rw [List.mem_singleton.mp hx]
  show 47 ∉ [cd r, 102]
  intro h
  rcases List.mem_cons.mp h with h | h
  ·exact n h.symm
  ·exact absurd (List.mem_singleton.mp h) (by decide)
theorem l8 {r : Nat} (hr : r < 65) : Txt.split (gP r) (Str.ofString "/") = [gP r] := by
 refine iM (xs := [gP r]) (fun x hx => ?_) (by simp)
 rw [List.mem_singleton.mp hx]
 show 47 ∉ [103, cd r]
 intro h
 rcases List.mem_cons.mp h with h | h
 ·exact absurd h (by decide)
 ·exact (oN hr).1 (List.mem_singleton.mp h).symm
theorem uK : bN ⟨#[102]⟩ = true := by decide +kernel
theorem wt {r : Nat} (hr : r < 65) : cx (fP r) = true := by
 unfold cx
 rw [mj hr]
 show (decide (2 ≤ 8) && (bN ⟨#[102]⟩ && (bN ⟨#[cd r, 102]⟩ && true))) = true
 rw [uK, (oN hr).2.1]; rfl
theorem wm {r : Nat} (hr : r < 65) : cx (gP r) = true := by
 unfold cx
 rw [l8 hr]
 show (decide (1 ≤ 8) && (bN (gP r) && true)) = true
 rw [(oN hr).2.2]; rfl
theorem rC {r : Nat} (hr : r < 65) : db (fP r) = [⟨#[102]⟩] := by
 unfold db
 rw [mj hr]; rfl
theorem ry {r : Nat} (hr : r < 65) : db (gP r) = [] := by
 unfold db
 rw [l8 hr]; rfl
theorem vO : cl (Str.ofString "/") = [47] := by rw [lG]
theorem sW {x y : Str} (h : ∀ t, cl y ++ [47] ++ t ≠ cl x) : Txt.startswith x (y ++ Str.ofString "/") = false := by
 cases e : Txt.startswith x (y ++ Str.ofString "/") with
 | false => rfl
 | true =>
  obtain ⟨t, ht⟩ := (nh _ _).mp e
  rw [cP, vO] at ht
  exact absurd ht (h t)
theorem yz {a b c : Nat} (ha : a < 65) (hb : b < 65) (hc : c < 65) : Kp [fP a, fP b, gP c] := by
 have mem : ∀ x ∈ [fP a, fP b, gP c], (∃ r, r < 65 ∧ x = fP r) ∨ (∃ r, r < 65 ∧ x = gP r) := by
  intro x hx
  rcases List.mem_cons.mp hx with rfl | hx
  ·exact .inl ⟨_, ha, rfl⟩
  ·rcases List.mem_cons.mp hx with rfl | hx
   ·exact .inl ⟨_, hb, rfl⟩
   ·rw [List.mem_singleton.mp hx]; exact .inr ⟨_, hc, rfl⟩
 refine ⟨Nat.le_refl _, fun x hx => ?_, fun x hx => ?_, fun x hx y hy => ?_, fun x hx u hu hk => ?_⟩
 ·rcases mem x hx with ⟨r, hr, rfl⟩ | ⟨r, hr, rfl⟩
  ·exact wt hr
  ·exact wm hr
 ·rcases mem x hx with ⟨r, hr, rfl⟩ | ⟨r, hr, rfl⟩
  ·show 4 ≤ 12; decide
  ·show 2 ≤ 12; decide
 ·refine sW fun t ht => ?_
  have hl := congrArg List.length ht
  rw [List.length_append, List.length_append] at hl
  rcases mem y hy with ⟨r, hr, rfl⟩ | ⟨r, hr, rfl⟩
  ·have hl : 4 + 1 + t.length = (cl x).length := hl
   rcases mem x hx with ⟨s, hs, rfl⟩ | ⟨s, hs, rfl⟩
   ·have hl : 4 + 1 + t.length = 4 := hl
    omega
   ·have hl : 4 + 1 + t.length = 2 := hl
    omega
  ·rcases mem x hx with ⟨s, hs, rfl⟩ | ⟨s, hs, rfl⟩
   ·have ht : 103 :: ([cd r] ++ [47] ++ t) = 102 :: [47, cd s, 102] := ht
    exact absurd (List.cons.inj ht).1 (by decide)
   ·have hl : 2 + 1 + t.length = 2 := hl
    omega
 ·rcases mem x hx with ⟨r, hr, rfl⟩ | ⟨r, hr, rfl⟩
  ·rw [rC hr] at hu
   have hu := List.mem_singleton.mp hu
   subst hu
   rcases mem _ hk with ⟨s, hs, e⟩ | ⟨s, hs, e⟩
   ·exact absurd (congrArg Str.length e) (show ¬ (1 : Nat) = 4 by decide)
   ·exact absurd (congrArg Str.length e) (show ¬ (1 : Nat) = 2 by decide)
  ·rw [ry hr] at hu; exact nomatch hu
theorem ra (k : Int) : (k % 65).toNat < 65 := by
 have h0 : 0 ≤ k % 65 := Int.emod_nonneg _ (by decide)
 have h1 : k % 65 < 65 := Int.emod_lt_of_pos _ (by decide)
 omega
theorem tU (k : Int) : Str.ofString "f/" ++ iP k ++ Str.ofString "f" = fP (k % 65).toNat := fL (by
 rw [cP, cP, show cl (Str.ofString "f/") = [102, 47] by decide +kernel, show cl (Str.ofString "f") = [102] by decide +kernel]; rfl)
theorem wn (k : Int) : Str.ofString "g" ++ iP k = gP (k % 65).toNat := fL (by
 rw [cP, show cl (Str.ofString "g") = [103] by decide +kernel]; rfl)
theorem sm (ns : List Int) : ∀ vs σ Q, sp__law_paths ns vs σ Q → vs.length = 1 ∧ cG ns (aC ["_law_shift"] vs aH) σ (fin Q) := by
 rintro vs σ Q ⟨k, rfl, q⟩
 refine ⟨rfl, ?_⟩
 have l1 : ∀ k, (iP k).length = 1 := fun _ => rfl
 have l2 : (Str.ofString "f/").length = 2 := by decide +kernel
 have l3 : (Str.ofString "f").length = 1 := by decide +kernel
 have l4 : (Str.ofString "g").length = 1 := by decide +kernel
 simp [cG, ei, aj, nG, l1, l2, l3, l4]
 rw [tU, tU, wn]
 exact q _ _ _ (yz (ra _) (ra _) (ra _))
end Mine
end
noncomputable section
set_option maxHeartbeats 1000000
namespace Mine
open PySem PySem.W PyProof.Rows PySem.Calls
theorem xS (k : Int) : k % 3 = 0 ∨ k % 3 = 1 ∨ k % 3 = 2 := by omega
theorem tP {σ : ah} {Q : V → ah → Prop} {ns : List Int} {a : Addr} {x y z : V} (k : Int) (h : σ a = some (.list [x, y, z])) (q : ∀ v, v = x ∨ v = y ∨ v = z → Q v σ) : aG ns (.ref a) (.int (k % 3)) σ Q := by
 rcases xS k with e | e | e
 ·rw [e]; exact bo h (by decide) (v := x) rfl (q _ (.inl rfl))
 ·rw [e]; exact bo h (by decide) (v := y) rfl (q _ (.inr (.inl rfl)))
 ·rw [e]; exact bo h (by decide) (v := z) rfl (q _ (.inr (.inr rfl)))
theorem eW {σ : ah} {Q : V → ah → Prop} {ns : List Int} {a : Addr} {x y z : Str} (k : Int) (h : σ a = some (.list [.str x, .str y, .str z])) (q : ∀ u, u ∈ [x, y, z] → Q (.str u) σ) : aG ns (.ref a) (.int (k % 3)) σ Q :=
 tP k h fun v hv => by
  rcases hv with rfl | rfl | rfl
  ·exact q x (by simp)
  ·exact q y (by simp)
  ·exact q z (by simp)
theorem tK {K : List Str} {kvs : List (Str × V)} {u t : Str} (hu : u ∈ K) : ∀ d ∈ [V.tup [.str (Str.ofString "put"), .str u, .str t]], Deed K kvs d := fun d hd => by
 rw [List.mem_singleton.mp hd]; exact .put u t hu
theorem wE {K : List Str} {kvs : List (Str × V)} {u : Str} (hu : u ∈ K) (hk : u ∈ keysOf kvs) : ∀ d ∈ [V.tup [.str (Str.ofString "cut"), .str u]], Deed K kvs d := fun d hd => by
 rw [List.mem_singleton.mp hd]; exact .cut u hu hk
theorem sv (ns : List Int) : ∀ vs σ Q, sp__law_grows ns vs σ Q → vs.length = 3 ∧ cJ ns (aC ["_law_book", "_law_cell", "_law_paths_here"] vs aH) σ (fin Q) := by
 rintro vs σ Q ⟨x, y, z, b, t, mo, ads, ts, ps, c, L, rfl, B, xL, hz, q⟩
 refine ⟨rfl, ?_⟩
 have hp : (0 : Int) < (ts.length : Int) := by rw [← B.lenP]; exact Int.ofNat_lt.mpr B.ord.pos
 unfold cJ
 rw [aj]
 simp [eK, ba B]
 refine ⟨[x, y, z], b, t, mo, ads, ts, ps, rfl, B, ?_⟩
 rw [f8]
 refine ⟨hp, ?_⟩
 have n0 := Int.emod_nonneg (c / 5) (Int.ne_of_gt hp)
 have n1 := Int.emod_lt_of_pos (c / 5) hp
 generalize c / 5 % (ts.length : Int) = n at n0 n1 ⊢
 obtain ⟨kvs, hk⟩ := B.tree_at n0 n1
 rw [aj]
 simp [eJ]
 refine ⟨.inr (by unfold il; decide), ?_⟩
 refine eW _ xL fun u hu => ?_
 rw [aj]
 simp [eI]
 intro s hs
 refine ⟨.inr (by unfold il; decide), ?_⟩
 have g1 : Grow σ (aY σ s (.list [.str (Str.ofString ""), .str (Str.ofString "b"), .str (Str.ofString "c")])) := Grow.refl.upd hs
 have xs := an σ s (.list [.str (Str.ofString ""), .str (Str.ofString "b"), .str (Str.ofString "c")])
 generalize (aY σ s (.list [.str (Str.ofString ""), .str (Str.ofString "b"), .str (Str.ofString "c")])) = σ₁ at g1 xs ⊢
 refine eW _ xs fun w _ => ?_
 try simp
 intro D hD
 have g2 := g1.upd (o := .list [.tup [.str (Str.ofString "put"), .str u, .str w]]) hD
 have xD := an σ₁ D (.list [.tup [.str (Str.ofString "put"), .str u, .str w]])
 generalize (aY σ₁ D (.list [.tup [.str (Str.ofString "put"), .str u, .str w]])) = σ₂ at g2 xD ⊢
 have last : ∀ (m : bb) (σ' : ah) (D : Addr) (dl : List V), Grow σ σ' → σ' D = some (.list dl) → dl.length ≤ 1 → (∀ d ∈ dl, Deed [x, y, z] kvs d) → m "_law_book" = some (.ref b) → m "_law_parent" = some (.int n) → m "_law_deeds" = some (.ref D) → aq (ch ns) au m σ' (fin Q) := by
  intro m σ' D dl g xD hl hd m1 m2 m3
  have B' := B.grow g
  rw [aj]
  simp [ch, m1, m2, m3, ba B']
  refine ⟨[x, y, z], b, t, mo, ads, ts, ps, n, D, dl, kvs, rfl, B', n0, n1, hk, xD, hl, hd, hz, fun ads' ts' ps' σ'' KK B2 hl2 => ?_⟩
  try simp
  exact q ads' ts' ps' σ'' (g.keep KK) B2 (by omega) (by omega)
 have rz : ∀ (m : bb) (σ' : ah) (D : Addr) (dl : List V), Grow σ σ' → σ' D = some (.list dl) → dl.length ≤ 1 → (∀ d ∈ dl, Deed [x, y, z] kvs d) → m "_law_book" = some (.ref b) → m "_law_parent" = some (.int n) → m "_law_deeds" = some (.ref D) → m "_law_cell" = some (.int c) → aq (cW ns) (aq (ch ns) au) m σ' (fin Q) := by
  intro m σ' D dl g xD hl hd m1 m2 m3 m4
  rw [aj]
  simp [cW, m4]
  by_cases h4 : c % 5 = 4
  ·rw [if_pos h4, aj]
   simp
   intro E hE
   exact last _ _ E [] (g.upd hE) (an _ _ _) (by simp) (fun d hd => (nomatch hd)) (by simp [m1]) (by simp [m2]) (by simp)
  ·rw [if_neg h4]
   exact last _ _ D dl g xD hl hd m1 m2 m3
 rw [aj]
 have B2 := B.grow g2
 simp [eH, ba B2]
 by_cases h3 : c % 5 = 3
 ·rw [if_pos h3]
  refine ⟨[x, y, z], b, t, mo, ads, ts, ps, n, kvs, rfl, B2, n0, hk, fun d ep hd => ?_⟩
  have g3 := g2.upd (o := .dict kvs ep) hd
  have xD3 : aY σ₂ d (.dict kvs ep) D = some (.list [.tup [.str (Str.ofString "put"), .str u, .str w]]) := by rw [az (by rintro rfl; rw [xD] at hd; cases hd)]; exact xD
  refine kH (an _ _ _) ?_
  rw [bZ]
  generalize (aY σ₂ d (.dict kvs ep)) = σ₃ at g3 xD3 ⊢
  by_cases hin : u ∈ keysOf kvs
  ·have h' : u ∈ kvs.map (·.1) := hin
   simp only [h', decide_true, dZ, if_true]
   rw [aj]
   simp
   intro E hE
   exact rz _ _ E _ (g3.upd hE) (an _ _ _) (by simp) (wE hu hin) (by simp) (by simp) (by simp) (by simp)
  ·have h' : u ∉ kvs.map (·.1) := hin
   simp only [h', decide_false, dZ, Bool.false_eq_true, if_false]
   exact rz _ _ D _ g3 xD3 (by simp) (tK hu) (by simp) (by simp) (by simp) (by simp)
 ·rw [if_neg h3]
  exact rz _ _ D _ g2 xD (by simp) (tK hu) (by simp) (by simp) (by simp) (by simp)
theorem xT (c : Int) : (c % 7).natAbs.log2 < 1920 := by
 have h : (c % 7).natAbs < 7 := by omega
 by_cases h0 : (c % 7).natAbs = 0
 ·rw [h0]; decide
 ·exact Nat.lt_trans ((Nat.log2_lt h0).mpr (Nat.lt_trans h (show 7 < 2 ^ 40 by decide))) (by decide)
theorem tC {ns : List Int} {x : Str} {σ : ah} {Q : V → ah → Prop} (q : Q (.str x) σ) : aG ns (.tup [.str x]) (.int 0) σ Q := ⟨by show 1 < 16777217; decide, 0, _, rfl, rfl, q⟩
theorem su (ns : List Int) : ∀ vs σ Q, sp__law_joins ns vs σ Q → vs.length = 2 ∧ cI ns (aC ["_law_book", "_law_cell"] vs aH) σ (fin Q) := by
 rintro vs σ Q ⟨K, b, t, mo, ads, ts, ps, c, rfl, B, hz, q⟩
 refine ⟨rfl, ?_⟩
 have hp : (0 : Int) < (ts.length : Int) := by rw [← B.lenP]; exact Int.ofNat_lt.mpr B.ord.pos
 unfold cI
 rw [aj]
 simp [eG, ba B]
 refine ⟨K, b, t, mo, ads, ts, ps, rfl, B, ?_⟩
 rw [f8]
 refine ⟨hp, ?_⟩
 have n0 := Int.emod_nonneg (c / 5) (Int.ne_of_gt hp)
 have n1 := Int.emod_lt_of_pos (c / 5) hp
 generalize c / 5 % (ts.length : Int) = n at n0 n1 ⊢
 rw [aj]
 simp [eF, ba B]
 refine ⟨.inr (by unfold il; decide), ?_⟩
 refine ⟨K, b, t, mo, ads, ts, ps, rfl, B, ?_⟩
 rw [f8]
 refine ⟨hp, ?_⟩
 have k0 := Int.emod_nonneg (c * 48271 % 65537) (Int.ne_of_gt hp)
 have k1 := Int.emod_lt_of_pos (c * 48271 % 65537) hp
 generalize c * 48271 % 65537 % (ts.length : Int) = k at k0 k1 ⊢
 rw [aj]
 simp [eE]
 by_cases hnk : n = k
 ·rw [if_pos hnk, aj]
  simp
  exact q ads ts ps σ (fun _ _ e _ => e) B (Nat.le_refl _) (Nat.le_succ _)
 rw [if_neg hnk]
 obtain ⟨kn, hn⟩ := B.tree_at n0 n1
 obtain ⟨km, hk⟩ := B.tree_at k0 k1
 rw [aj]
 simp [eD, ba B]
 refine ⟨K, b, t, mo, ads, ts, ps, n, k, rfl, B, n0, n1, k0, k1, fun M σ₁ g1 hN => ?_⟩
 have hM := hN.a1.le B.ord.lt n0
 obtain ⟨ke, he⟩ := B.tree_at hM.1 (Int.lt_of_le_of_lt hM.2 n1)
 have B1 := B.grow g1
 refine ⟨K, b, t, mo, ads, ts, ps, M, ke, rfl, B1, hM.1, he, fun d1 e1 hd1 => ?_⟩
 have g2 := g1.upd (o := .dict ke e1) hd1
 have x1 := an σ₁ d1 (.dict ke e1)
 generalize (aY σ₁ d1 (.dict ke e1)) = σ₂ at g2 x1 ⊢
 rw [aj]
 simp [eB]
 intro p ep hp'
 have hpn := g2.none hp'
 have x1' : aY σ₂ p (.dict [] ep) d1 = some (.dict ke e1) := by rw [az (by rintro rfl; rw [x1] at hp'; cases hp')]; exact x1
 have g3 := g2.upd (o := .dict [] ep) hp'
 have xp := an σ₂ p (.dict [] ep)
 generalize (aY σ₂ p (.dict [] ep)) = σ₃ at g3 xp x1' ⊢
 have B3 := B.grow g3
 show aq _ _ _ _ _
 rw [aj]
 simp [eA, ba B3]
 refine ⟨K, b, t, mo, ads, ts, ps, n, kn, rfl, B3, n0, hn, fun d2 e2 hd2 => ?_⟩
 have g4 : Grow σ₃ (aY σ₃ d2 (.dict kn e2)) := Grow.refl.upd hd2
 have x2 := an σ₃ d2 (.dict kn e2)
 generalize (aY σ₃ d2 (.dict kn e2)) = σ₄ at g4 x2 ⊢
 have B4 := B3.grow g4
 try simp [ba B4]
 refine ⟨K, b, t, mo, ads, ts, ps, k, km, rfl, B4, k0, hk, fun d3 e3 hd3 => ?_⟩
 have g5 : Grow σ₄ (aY σ₄ d3 (.dict km e3)) := Grow.refl.upd hd3
 have x3 := an σ₄ d3 (.dict km e3)
 generalize (aY σ₄ d3 (.dict km e3)) = σ₅ at g5 x3 ⊢
 have g45 := g4.trans g5
 have D : D3 K d1 d2 d3 ke kn km e1 e2 e3 σ₅ := ⟨g45 _ _ x1', g5 _ _ x2, x3, B.tree _ (List.mem_of_getElem? he), B.tree _ (List.mem_of_getElem? hn), B.tree _ (List.mem_of_getElem? hk), B.un⟩
 try simp
 refine tG D fun xs hxs hxl l σ₆ g6 hl xl => ?_
 rw [a7 xl]
 have xp6 := g6 _ _ (g45 _ _ xp)
 have hlp : l ≠ p := by rintro rfl; rw [g45 _ _ xp] at hl; cases hl
 have g36 := g3.trans (g45.trans g6)
 have gr : ∀ {σ' : ah}, Keep [p] σ₆ σ' → Grow σ σ' := fun kk z o e => kk z o (g36 z o e) (by rw [List.mem_singleton]; rintro rfl; rw [hpn] at e; cases e)
 have xsK : ∀ x ∈ xs, x ∈ K := fun x hx => D.key (k8 ((hxs x).mp hx))
 refine aZ (fun i m σ' => ∃ pk ep, Keep [p] σ₆ σ' ∧ σ' p = some (.dict pk ep) ∧ Fnd K pk (xs.take i) ∧ (∀ q ∈ pk, ∃ o, q.2 = jx o) ∧ m "_law_book" = some (.ref b) ∧ m "_law_cell" = some (.int c) ∧ m "_law_one" = some (.int n) ∧ m "_law_other" = some (.int k) ∧ m "_law_picks" = some (.ref p)) (fun _ _ _ => False)
  (fun i m σ' ⟨_, _, h, _⟩ => h _ _ xl (by simpa using hlp)) _ ?_ ?_ (fun _ _ _ h => h.elim) _ _ ⟨[], ep, fun _ _ e _ => e, xp6, ⟨List.nodup_nil, fun _ => Iff.rfl, fun _ h => (nomatch h)⟩, (fun _ h => (nomatch h)), by simp, by simp, by simp, by simp, by simp⟩
 ·rintro i v m σ' Q' hv ⟨pk, ep', kk, hpk, F, hval, mb, mc, m1, m2, mp⟩ r1 r2 r3
  obtain ⟨y, hy, rfl⟩ := og hv
  have B' := B.grow (gr kk)
  refine ⟨_, rfl, ?_⟩
  rw [aj]
  simp [mb, mc, m1, mp, ba B', xT]
  refine ⟨K, b, t, mo, ads, ts, ps, n, kn, rfl, B', n0, hn, fun d4 e4 hd4 => ?_⟩
  have g7 : Grow σ' (aY σ' d4 (.dict kn e4)) := Grow.refl.upd hd4
  have x4 := an σ' d4 (.dict kn e4)
  generalize (aY σ' d4 (.dict kn e4)) = σ₇ at g7 x4 ⊢
  refine ⟨by rw [du x4]; trivial, ?_⟩
  refine tC ?_
  refine (cy x4 (B.tree _ (List.mem_of_getElem? hn)) ?_).2
  intro a ha
  have xa := an σ₇ a (.list [.none, .str (Str.ofString (toString (c % 7))), jx (gS kn y)])
  have g8 := g7.upd (o := .list [.none, .str (Str.ofString (toString (c % 7))), jx (gS kn y)]) ha
  generalize (aY σ₇ a (.list [.none, .str (Str.ofString (toString (c % 7))), jx (gS kn y)])) = σ₈ at xa g8 ⊢
  refine tP _ xa fun v hv => ?_
  have ho : ∃ o, v = jx o := by
   rcases hv with rfl | rfl | rfl
   ·exact ⟨Option.none, rfl⟩
   ·exact ⟨some _, rfl⟩
   ·exact ⟨_, rfl⟩
  refine tC ?_
  refine df (g8 _ _ hpk) (Nat.lt_of_le_of_lt (F.len B.un) (by decide)) fun ep2 => ?_
  refine r1 _ _ ⟨_, ep2, fun z o ez hz' => ?_, an _ _ _, ?_, fun q hq => ?_, by simp [mb], by simp [mc], by simp [m1], by simp [m2], by simp [mp]⟩
  ·rw [az (by simpa using hz')]; exact kk.grow g8 z o ez hz'
  ·rw [List.take_add_one, hy]
   exact F.put (xsK y (List.mem_of_getElem? hy))
  ·rcases gO hq with e | e
   ·rw [e]; exact ho
   ·exact hval q e
 ·rintro m σ' ⟨pk, ep', kk, hpk, F, hval, mb, mc, m1, m2, mp⟩
  rw [List.length_map, List.take_length] at F
  have B' := B.grow (gr kk)
  rw [aQ, aj]
  simp [ew, mb, m1, m2, mp, ba B']
  refine ⟨K, b, t, mo, ads, ts, ps, n, k, p, pk, ep', M, ke, kn, km, rfl, B', n0, n1, k0, k1, hnk, hpk, hN, he, hn, hk, ⟨fun x => (F.mem x).trans (hxs x), hval, F.nodup⟩, hz, fun ads' ts' ps' σ'' KK B2 hl2 => ?_⟩
  try simp
  exact q ads' ts' ps' σ'' ((gr kk).keep KK) B2 (by omega) (by omega)
end Mine
end
noncomputable section
set_option maxHeartbeats 1000000
namespace Mine
open PySem PySem.W PyProof.Rows PySem.Calls
noncomputable def Objs (G : ah) (O : Nat → AObj → Prop) (as : List Addr) (σ : ah) : Prop := ∀ (j : Nat) a, as[j]? = some a → G a = Option.none ∧ ∃ o, σ a = some o ∧ O j o
theorem Objs.grow {G σ σ' : ah} {O : Nat → AObj → Prop} {as : List Addr} (h : Objs G O as σ) (g : Grow σ σ') : Objs G O as σ' := fun j a e => let ⟨h1, o, h2, h3⟩ := h j a e; ⟨h1, o, g _ _ h2, h3⟩
theorem Objs.snoc {G σ σ' : ah} {O : Nat → AObj → Prop} {as : List Addr} {a : Addr} {o : AObj} (h : Objs G O as σ) (g : Grow σ σ') (h1 : G a = Option.none) (h2 : σ' a = some o) (h3 : O as.length o) : Objs G O (as ++ [a]) σ' := fun j c e => by
 rcases Nat.lt_or_ge j as.length with hj | hj
 ·rw [List.getElem?_append_left hj] at e; exact h.grow g j c e
 ·rw [List.getElem?_append_right hj] at e
  have hj2 : j - as.length = 0 := by
   have := (List.getElem?_eq_some_iff.mp e).1
   simpa using this
  rw [hj2] at e
  have e : a = c := Option.some.inj e
  subst e
  have : j = as.length := Nat.le_antisymm (Nat.le_of_sub_eq_zero hj2) hj
  subst this
  exact ⟨h1, o, h2, h3⟩
theorem Objs.nil {G σ : ah} {O : Nat → AObj → Prop} : Objs G O [] σ := fun j a e => by simp at e
theorem dC {g : Tgt} {inv : ah → Prop} {T : ET} {m : bb} {G : ah} (O : Nat → AObj → Prop) (hinv : ∀ σ, Grow G σ → inv σ) :
  ∀ (items : List V) (as : List Addr) (σ : ah) (Q : List V → ah → Prop), as.length + items.length ≤ 1048576 →
  (∀ (j : Nat) v, items[j]? = some v → ∀ σ (Q' : V → ah → Prop), Grow G σ → (∀ a o σ', Grow σ σ' → σ a = Option.none → σ' a = some o → O (as.length + j) o → Q' (.ref a) σ') → ∃ m', dJ g v m = some m' ∧ T m' σ Q') →
  Grow G σ → Objs G O as σ → (∀ as' σ', Grow G σ' → as'.length = as.length + items.length → Objs G O as' σ' → Q (as'.map .ref) σ') → bU g inv tT T m items (as.map .ref) σ Q
 | [], as, σ, Q, hz, step, p, h, q => by
  simp only [bU]
  exact ⟨hinv σ p, q as σ p rfl h⟩
 | v :: r, as, σ, Q, hz, step, p, h, q => by
  simp only [bU]
  rw [List.length_cons] at hz
  have hl : ∀ a, (as ++ [a]).length = as.length + 1 := fun a => by rw [List.length_append]; rfl
  obtain ⟨m', h1, h2⟩ := step 0 v rfl σ (fun y σ₂ => (as.map V.ref).length < 1048576 ∧ bU g inv tT T m r (as.map V.ref ++ [y]) σ₂ Q) p (fun a o σ' g' ha xa ho => by
   refine ⟨by rw [List.length_map]; exact Nat.lt_of_lt_of_le (Nat.lt_of_lt_of_le (Nat.lt_succ_self _) (Nat.add_le_add_left (Nat.succ_le_succ (Nat.zero_le _)) _)) hz, ?_⟩
   have e : as.map V.ref ++ [.ref a] = (as ++ [a]).map V.ref := by rw [List.map_append]; rfl
   rw [e]
   exact dC O hinv r (as ++ [a]) σ' Q (by rw [hl, Nat.add_right_comm, Nat.add_assoc]; exact hz) (fun j v' e1 σ₂ Q₂ p₂ n => step (j + 1) v' (by simpa using e1) σ₂ Q₂ p₂ fun a o σ' x1 x2 x3 x4 => n a o σ' x1 x2 x3 (by rw [hl, Nat.add_right_comm, Nat.add_assoc]; exact x4)) (p.trans g') (h.snoc g' (p.none ha) xa ho) fun as' σ'' p'' hl'' ho'' => q as' σ'' p'' (by rw [hl'', hl, Nat.add_right_comm, Nat.add_assoc]; rfl) ho'')
  exact ⟨hinv σ p, m', h1, by simpa [tT] using h2⟩
theorem iR {F : V → V → Prop} : ∀ {as bs : List Addr}, as.length = bs.length → (∀ (i : Nat) a b, as[i]? = some a → bs[i]? = some b → F (.ref a) (.ref b)) → Same2 F (as.map .ref) (bs.map .ref)
 | [], [], _, _ => .nil
 | [], _ :: _, hl, _ => by simp at hl
 | _ :: _, [], hl, _ => by simp at hl
 | a :: as, b :: bs, hl, h => .cons (h 0 a b rfl rfl) (iR (Nat.succ.inj hl) fun i a b h1 h2 => h (i + 1) a b (by simpa using h1) (by simpa using h2))
theorem Sto.len {ts : List (List (Str × V))} {ps : List (List Int)} {n : Int} {x : Str} {es : List Int} (s : Sto ts ps n x es) (o : Ord ps) (h0 : 0 ≤ n) (h1 : n < ps.length) : es.length ≤ 60 :=
 Nat.le_trans (cM (by rw [List.nodup_iff_pairwise_ne]; exact s.lt.imp fun h => Int.ne_of_lt h) fun x hx => let h := ((s.mem x).mp hx).1.le o.lt h0; ⟨h.1, Int.lt_of_le_of_lt h.2 h1⟩) o.few
noncomputable def Due (ts : List (List (Str × V))) (ps : List (List Int)) (qs : List (Int × Str)) (j : Nat) (o : AObj) : Prop := ∃ es q, qs[j]? = some q ∧ o = .list (es.map .int) ∧ Sto ts ps q.1 q.2 es ∧ es.length ≤ 60
theorem Due.two {ts : List (List (Str × V))} {ps : List (List Int)} {qs : List (Int × Str)} {j : Nat} {o o' : AObj} (h : Due ts ps qs j o) (h' : Due ts ps qs j o') : ∃ es : List Int, o = .list (es.map .int) ∧ o' = .list (es.map .int) ∧ es.length ≤ 60 := by
 obtain ⟨es, q, e1, rfl, S, l⟩ := h
 obtain ⟨es', q', e1', rfl, S', l'⟩ := h'
 rw [e1] at e1'; cases e1'
 cases S.uniq S'
 exact ⟨es, rfl, rfl, l⟩
theorem rV {qs : List (Int × Str)} {i : Nat} {v : V} (h : (qs.map iv)[i]? = some v) : ∃ q, qs[i]? = some q ∧ v = iv q := by
 rw [List.getElem?_map] at h
 obtain ⟨q, hq, rfl⟩ := Option.map_eq_some_iff.mp h
 exact ⟨q, hq, rfl⟩
theorem ui {as : List Addr} {i : Nat} {v : V} (h : (as.map V.ref)[i]? = some v) : ∃ q, as[i]? = some q ∧ v = .ref q := by
 rw [List.getElem?_map] at h
 obtain ⟨q, hq, rfl⟩ := Option.map_eq_some_iff.mp h
 exact ⟨q, hq, rfl⟩
theorem qj : ∀ {as bs : List Addr} {i : Nat} {v : V}, (List.zipWith (fun x y => V.tup [.ref x, .ref y]) as bs)[i]? = some v → ∃ x y, as[i]? = some x ∧ bs[i]? = some y ∧ v = .tup [.ref x, .ref y]
 | [], _, _, _, h => by simp at h
 | _ :: _, [], _, _, h => by simp at h
 | a :: as, b :: bs, 0, v, h => ⟨a, b, rfl, rfl, by simp at h; exact h.symm⟩
 | a :: as, b :: bs, i + 1, v, h => by
  obtain ⟨x, y, h1, h2, h3⟩ := qj (as := as) (bs := bs) (i := i) (v := v) (by simpa using h)
  exact ⟨x, y, by simpa using h1, by simpa using h2, h3⟩
theorem i9 {ns : List Int} {K : List Str} {σ : ah} {b t mo L : Addr} {ads : List Addr} {ts : List (List (Str × V))} {ps : List (List Int)} {qs : List (Int × Str)} {m : bb} {Q : List V → ah → Prop} (B : BookAt K σ b t mo ads ts ps) (xL : σ L = some (.list (qs.map iv))) (hq3 : qs.length ≤ 3) (hqs : ∀ q ∈ qs, 0 ≤ q.1 ∧ q.1 < (ts.length : Int)) (mb : m "_law_book" = some (.ref b))
  (q : ∀ as σ', Grow σ σ' → as.length = qs.length → Objs σ (Due ts ps qs) as σ' → Q (as.map .ref) σ') :
  bU (.tup ["_law_number", "_law_path"]) (fun σ => σ L = some (.list (qs.map iv))) tT (aU "story" (sp_story ns) (ae "_law_book") (ai (ae "_law_number") (ai (ae "_law_path") ar))) (only ["_law_book"] m) (qs.map iv) [] σ Q := by
 refine dC (G := σ) (Due ts ps qs) (fun s g => g _ _ xL) (qs.map iv) [] _ _ (by rw [List.length_map]; exact Nat.le_trans (Nat.add_le_add_left hq3 _) (by decide)) (fun j v hv s Q' g n => ?_) Grow.refl Objs.nil fun as σ' g hl ho => q as σ' g (by rw [hl, List.length_map]; exact Nat.zero_add _) ho
 obtain ⟨q', hq', rfl⟩ := rV hv
 have hm := hqs q' (List.mem_of_getElem? hq')
 have Bs := B.grow g
 refine ⟨_, rfl, ?_⟩
 simp [mb, ba Bs]
 refine ⟨K, b, t, mo, ads, ts, ps, q'.1, q'.2, rfl, Bs, hm.1, hm.2, fun es S a σ' g' ha xa => n a _ σ' g' ha xa ⟨es, q', by simpa using hq', rfl, S, S.len B.ord hm.1 (by rw [B.lenP]; exact hm.2)⟩⟩
theorem t9 (ns : List Int) : ∀ vs σ Q, sp__law_told ns vs σ Q → vs.length = 2 ∧ c9 ns (aC ["_law_book", "_law_asked_here"] vs aH) σ (fin Q) := by
 rintro vs σ Q ⟨K, b, t, mo, ads, ts, ps, L, qs, rfl, B, xL, hq3, hqs, q⟩
 refine ⟨rfl, ?_⟩
 unfold c9
 rw [aj]
 simp [fD, a7 xL]
 refine dC (G := σ) (Due ts ps qs) (fun s g => g _ _ xL) (qs.map iv) [] _ _ (by rw [List.length_map]; exact Nat.le_trans (Nat.add_le_add_left hq3 _) (by decide)) (fun j v hv s Q' g n => ?_) Grow.refl Objs.nil fun ds σ₁ g1 hdl hds => ?_
 ·obtain ⟨q', hq', rfl⟩ := rV hv
  have hm := hqs q' (List.mem_of_getElem? hq')
  refine ⟨_, rfl, ?_⟩
  simp
  refine ⟨K, b, t, mo, ads, ts, ps, q'.1, q'.2, rfl, B.grow g, hm.1, hm.2, fun es S a σ' g' ha xa => n a _ σ' g' ha xa ⟨es, q', by simpa using hq', rfl, S, S.len B.ord hm.1 (by rw [B.lenP]; exact hm.2)⟩⟩
 have hdl : ds.length = qs.length := by rw [hdl, List.length_map]; exact Nat.zero_add _
 intro D hD
 have g12 : Grow σ₁ (aY σ₁ D (.list (ds.map V.ref))) := Grow.refl.upd hD
 have xD := an σ₁ D (.list (ds.map V.ref))
 generalize (aY σ₁ D (.list (ds.map V.ref))) = σ₂ at g12 xD ⊢
 have g2 := g1.trans g12
 have hds2 := hds.grow g12
 have B2 := B.grow g2
 have xL2 := g2 _ _ xL
 clear hds g1 g12
 show aq _ _ _ _ _
 rw [aj]
 simp [fC, a7 xL2]
 refine i9 B2 xL2 hq3 hqs (by simp) fun fs σ₃ g3 hfl hfs => ?_
 intro F hF
 have hFfs : F ∉ fs := fun h => by
  obtain ⟨i, hi⟩ := List.getElem?_of_mem h
  obtain ⟨_, o, xo, _⟩ := hfs i F hi
  rw [hF] at xo; cases xo
 have g34 : Grow σ₃ (aY σ₃ F (.list (fs.map V.ref))) := Grow.refl.upd hF
 have xF := an σ₃ F (.list (fs.map V.ref))
 generalize (aY σ₃ F (.list (fs.map V.ref))) = σ₄ at g34 xF ⊢
 have g4 := g3.trans g34
 have hfs4 := hfs.grow g34
 have hds4 := hds2.grow g4
 show aq _ _ _ _ _
 rw [aj]
 simp [fz]
 refine ⟨F, D, ⟨rfl, rfl⟩, fs, ds, by rw [hfl, hdl], xF, g4 _ _ xD, ?_⟩
 refine aZ (fun i m σ' => Grow σ₄ σ' ∧ m "_law_book" = some (.ref b) ∧ m "_law_asked_here" = some (.ref L) ∧ m "_law_found" = some (.ref F) ∧ m "_law_dues" = some (.ref D)) (fun _ _ _ => False)
  (fun i m σ' h => ⟨h.1 _ _ xF, h.1 _ _ (g4 _ _ xD)⟩) _ ?_ ?_ (fun _ _ _ h => h.elim) _ _ ⟨Grow.refl, by simp, by simp, by simp, by simp⟩
 ·rintro i v m σ' Q' hv ⟨g, m1, m2, m3, m4⟩ n1 n2 n3
  obtain ⟨x, y, hx, hy, rfl⟩ := qj hv
  obtain ⟨_, o1, xx, D1⟩ := hfs4 i x hx
  obtain ⟨_, o2, xy, D2⟩ := hds4 i y hy
  obtain ⟨es, rfl, rfl, hel⟩ := D1.two D2
  have xx := g _ _ xx
  have xy := g _ _ xy
  refine ⟨_, rfl, ?_⟩
  rw [aj]
  simp [rp xx, a7 xx]
  refine bH (fun s => s = σ') (fun s hs => by rw [hs]; exact xx) (fun _ => Option.none) _ _ _ _ (by simp; omega) ?_ rfl ?_
  ·rintro v hv s Q₁ Q₂ rfl r1 r2
   obtain ⟨k, hk, rfl⟩ := List.mem_map.mp hv
   refine ⟨_, rfl, ?_⟩
   simp
   exact r2 _ rfl rfl
  ·rintro s rfl r hr
   have e : (es.map V.int).filterMap (fun _ => (Option.none : Option V)) = [] := by simp
   have gr : Grow s (aY s r (.list [])) := Grow.refl.upd hr
   rw [List.nil_append, e, bT (an _ _ _)]
   simp
   refine q8 (xs := es) (gr _ _ xx) (gr _ _ xy) ?_
   simp
   exact n1 _ _ ⟨g.trans gr, by simp [m1], by simp [m2], by simp [m3], by simp [m4]⟩
 rintro m σ₅ ⟨g5, m1, m2, m3, m4⟩
 have xF5 := g5 _ _ xF
 have hfs5 := hfs4.grow g5
 have nf : ∀ {z : Addr} {o : AObj}, σ₂ z = some o → z ∉ fs := fun {z o} e h => by
  obtain ⟨i, hi⟩ := List.getElem?_of_mem h
  rw [(hfs i z hi).1] at e; cases e
 rw [aQ, aj]
 simp [fw, m3, a7 xF5]
 refine aZ (fun i m σ' => (∀ z, z ∉ fs → σ' z = σ₅ z) ∧ (∀ a ∈ fs, ∃ xs, σ' a = some (.list xs) ∧ xs.length ≤ 60 + i) ∧ m "_law_book" = some (.ref b) ∧ m "_law_asked_here" = some (.ref L) ∧ m "_law_dues" = some (.ref D)) (fun _ _ _ => False)
  (fun i m σ' h => by rw [h.1 F hFfs]; exact xF5) _ ?_ ?_ (fun _ _ _ h => h.elim) _ _ ⟨fun _ _ => rfl, fun a ha => ?_, m1, m2, m4⟩
 ·rintro i v m σ' Q' hv ⟨h1, h2, k1, k2, k3⟩ n1 n2 n3
  obtain ⟨a, ha, rfl⟩ := ui hv
  have hi := (List.getElem?_eq_some_iff.mp ha).1
  have ham := List.mem_of_getElem? ha
  obtain ⟨xs, xa, la⟩ := h2 a ham
  refine ⟨_, rfl, ?_⟩
  rw [aj]
  simp [ck xa]
  refine b5 xa (by omega) ?_
  refine n1 _ _ ⟨fun z hz => by rw [az (by rintro rfl; exact hz ham)]; exact h1 z hz, fun c hc => ?_, by simp [k1], by simp [k2], by simp [k3]⟩
  by_cases hca : c = a
  ·subst hca; exact ⟨_, an _ _ _, by rw [List.length_append]; exact Nat.succ_le_succ la⟩
  ·obtain ⟨ys, yc, lc⟩ := h2 c hc
   exact ⟨ys, by rw [az hca]; exact yc, Nat.le_succ_of_le lc⟩
 ·rintro m σ₆ ⟨h1, h2, k1, k2, k3⟩
  have g26 : Grow σ₂ σ₆ := fun z o e => by rw [h1 z (nf e)]; exact g5 _ _ (g4 _ _ e)
  have B6 := B2.grow g26
  have xL6 := g26 _ _ xL2
  have hds6 := hds2.grow g26
  rw [aQ, aj]
  simp [fu, k1, k2, k3, a7 xL6]
  refine i9 B6 xL6 hq3 hqs (by simp [k1]) fun ss σ₇ g7 hsl hss => ?_
  intro E hE
  have g78 : Grow σ₇ (aY σ₇ E (.list (ss.map V.ref))) := Grow.refl.upd hE
  have xE := an σ₇ E (.list (ss.map V.ref))
  generalize (aY σ₇ E (.list (ss.map V.ref))) = σ₈ at g78 xE ⊢
  have g8 := g7.trans g78
  try simp [k3]
  refine ⟨.inl ⟨E, D, _, _, rfl, rfl, xE, g8 _ _ (g26 _ _ xD), iR (by rw [hsl, hdl]) fun i a c ha hc => ?_⟩, ?_⟩
  ·obtain ⟨_, o1, x1, D1⟩ := (hss.grow g78) i a ha
   obtain ⟨_, o2, x2, D2⟩ := (hds6.grow g8) i c hc
   obtain ⟨es, rfl, rfl, _⟩ := D1.two D2
   exact jK x1 x2
  ·try simp
   exact q _ (g2.trans (g26.trans g8))
 ·obtain ⟨i, hi⟩ := List.getElem?_of_mem ha
  obtain ⟨_, o, xo, es, q', _, rfl, _, hl⟩ := hfs5 i a hi
  exact ⟨_, xo, by rw [List.length_map]; exact hl⟩
theorem pS {σ : ah} {Q : V → ah → Prop} {ns : List Int} {a : Addr} {us : List Str} {k n : Int} (h : σ a = some (.list (us.map .str))) (hn : (us.length : Int) = n) (h0 : 0 < n) (q : ∀ u, Q (.str u) σ) : aG ns (.ref a) (.int (k % n)) σ Q := by
 have a1 := Int.emod_nonneg k (b := n) (Int.ne_of_gt h0)
 have a2 := Int.emod_lt_of_pos k h0
 generalize k % n = r at a1 a2 ⊢
 have hr : r.toNat < us.length := by omega
 exact bo h a1 (v := .str us[r.toNat]) (by rw [List.getElem?_map, List.getElem?_eq_getElem hr]; rfl) (q _)
theorem sw (ns : List Int) : ∀ vs σ Q, sp__law_asked ns vs σ Q → vs.length = 4 ∧ cK ns (aC ["_law_script", "_law_book", "_law_paths_here", "_law_shift"] vs aH) σ (fin Q) := by
 rintro vs σ Q ⟨K, b, t, mo, ads, ts, ps, L, x, y, z, i, rfl, B, xL, hi, hx, hy, q⟩
 refine ⟨rfl, ?_⟩
 have hp : (0 : Int) < (ts.length : Int) := by rw [← B.lenP]; exact Int.ofNat_lt.mpr B.ord.pos
 have hi0 : 0 < i ∧ i < 1073741824 := by omega
 unfold cK
 rw [aj]
 simp [eP]
 refine bo xL (by decide) (v := .str x) rfl ?_
 rw [oQ]
 refine ⟨by rw [dQ]; omega, ?_⟩
 try simp
 refine bo xL (by decide) (v := .str y) rfl ?_
 rw [oQ]
 refine ⟨by rw [dQ]; omega, ?_⟩
 try simp
 intro O hO
 have g1 := Grow.upd (Grow.refl (σ := σ)) (o := .list ([Str.ofString "f", Str.ofString "", Str.ofString "no/such", Str.ofString "a//b", Str.ofString "/" ++ x, y ++ Str.ofString "/", Str.ofString "a b", Str.ofString "a/.", Str.ofString "f/../f"].map V.str)) hO
 have xO := an σ O (.list ([Str.ofString "f", Str.ofString "", Str.ofString "no/such", Str.ofString "a//b", Str.ofString "/" ++ x, y ++ Str.ofString "/", Str.ofString "a b", Str.ofString "a/.", Str.ofString "f/../f"].map V.str))
 show aq _ _ _ (aY σ O (.list ([Str.ofString "f", Str.ofString "", Str.ofString "no/such", Str.ofString "a//b", Str.ofString "/" ++ x, y ++ Str.ofString "/", Str.ofString "a b", Str.ofString "a/.", Str.ofString "f/../f"].map V.str))) _
 generalize hus : [Str.ofString "f", Str.ofString "", Str.ofString "no/such", Str.ofString "a//b", Str.ofString "/" ++ x, y ++ Str.ofString "/", Str.ofString "a b", Str.ofString "a/.", Str.ofString "f/../f"] = us at g1 xO ⊢
 have hul : (us.length : Int) = 9 := by rw [← hus]; rfl
 generalize (aY σ O (.list (us.map V.str))) = σ₁ at g1 xO ⊢
 have B1 := B.grow g1
 have xL1 := g1 _ _ xL
 rw [aj]
 simp [eO]
 refine ⟨hi0, ?_⟩
 generalize cell ns 2 / i = c
 rw [aj]
 simp [eN, ba B1]
 refine ⟨hi0, ?_⟩
 refine ⟨K, b, t, mo, ads, ts, ps, rfl, B1, ?_⟩
 rw [f8]
 refine ⟨hp, ?_⟩
 have n0 := Int.emod_nonneg (cell ns 1 / i) (Int.ne_of_gt hp)
 have n1 := Int.emod_lt_of_pos (cell ns 1 / i) hp
 generalize cell ns 1 / i % (ts.length : Int) = n at n0 n1 ⊢
 try simp [ba B1]
 refine ⟨K, b, t, mo, ads, ts, ps, rfl, B1, ?_⟩
 rw [f8]
 refine ⟨hp, ?_⟩
 have k0 := Int.emod_nonneg c (Int.ne_of_gt hp)
 have k1 := Int.emod_lt_of_pos c hp
 generalize c % (ts.length : Int) = k at k0 k1 ⊢
 try simp
 intro N hN
 have g2 : Grow σ₁ (aY σ₁ N (.list [.int n, .int k])) := Grow.refl.upd hN
 have xN := an σ₁ N (.list [.int n, .int k])
 generalize (aY σ₁ N (.list [.int n, .int k])) = σ₂ at g2 xN ⊢
 have xL2 := g2 _ _ xL1
 have xO2 := g2 _ _ xO
 show aq _ _ _ _ _
 rw [aj]
 simp [eM]
 refine bo xN (by decide) (v := .int n) rfl ?_
 try simp
 refine eW _ xL2 fun u1 _ => ?_
 try simp
 refine bo xN (by decide) (v := .int k) rfl ?_
 try simp
 refine eW _ xL2 fun u2 _ => ?_
 try simp
 refine bo xN (by decide) (v := .int n) rfl ?_
 try simp
 refine pS xO2 hul (by decide) fun u3 => ?_
 try simp
 intro a ha
 have g := g1.trans g2
 refine q [(n, u1), (k, u2), (n, u3)] (Nat.le_refl 3) (fun w hw => ?_) a _ (g.upd ha) (g.none ha) (an _ _ _)
 rcases List.mem_cons.mp hw with rfl | hw
 ·exact ⟨n0, n1⟩
 ·rcases List.mem_cons.mp hw with rfl | hw
  ·exact ⟨k0, k1⟩
  ·rw [List.mem_singleton.mp hw]; exact ⟨n0, n1⟩
end Mine
end
noncomputable section
set_option maxHeartbeats 2000000
namespace Mine
open PySem PySem.W PyProof.Rows PySem.Calls
theorem wH (ns : List Int) : (bv ns (some 4) (some 29)).length ≤ 25 := by
 unfold bv
 rw [List.length_take]
 refine Nat.le_trans (Nat.min_le_left _ _) ?_
 show clipAt ns.length 29 - clipAt ns.length 4 ≤ 25
 rw [jd (by decide), jd (by decide)]
 have e1 : (29 : Int).toNat = 29 := rfl
 have e2 : (4 : Int).toNat = 4 := rfl
 rw [e1, e2]
 omega
theorem xM : Ord [[]] := by
 refine ⟨fun k l h => ?_, fun k l h p hp => ?_, fun k l h hk => ?_, by decide, by decide⟩
 ·rw [List.mem_singleton.mp (List.mem_of_getElem? h)]; decide
 ·rw [List.mem_singleton.mp (List.mem_of_getElem? h)] at hp; cases hp
 ·have := (List.getElem?_eq_some_iff.mp h).1
  simp at this; omega
noncomputable def tW (ts : List (List (Str × V))) (j : Nat) (o : AObj) : Prop := ∃ kvs ep, ts[j]? = some kvs ∧ o = .dict kvs ep
theorem jU {ns : List Int} {K : List Str} {σ : ah} {b t mo : Addr} {ads : List Addr} {ts : List (List (Str × V))} {ps : List (List Int)} {m : bb} {Q : List V → ah → Prop} (B : BookAt K σ b t mo ads ts ps) (mb : m "_law_book" = some (.ref b))
  (q : ∀ as σ', Grow σ σ' → as.length = ts.length → Objs σ (tW ts) as σ' → Q (as.map .ref) σ') :
  bU (.name "_law_k") (fun _ => True) tT (aU "tree" (sp_tree ns) (ae "_law_book") (ai (ae "_law_k") ar)) (only ["_law_book"] m) (ca 0 ts.length) [] σ Q := by
 have few := B.ord.few
 have lenP := B.lenP
 refine dC (G := σ) (tW ts) (fun _ _ => trivial) (ca 0 ts.length) [] _ _ (by simp [cL]; omega) (fun j v hv s Q' g n => ?_) Grow.refl Objs.nil fun as σ' g hl ho => q as σ' g (by rw [hl, cL]; exact Nat.zero_add _) ho
 obtain ⟨hj, rfl⟩ := dg hv
 have Bs := B.grow g
 obtain ⟨kvs, hk⟩ : ∃ kvs, ts[j]? = some kvs := ⟨_, List.getElem?_eq_getElem hj⟩
 refine ⟨_, rfl, ?_⟩
 simp [mb, ba Bs]
 refine ⟨K, b, t, mo, ads, ts, ps, _, kvs, rfl, Bs, Int.natCast_nonneg _, by rw [Int.toNat_natCast]; exact hk, fun d ep hd => ?_⟩
 exact n d _ _ (Grow.refl.upd hd) hd (an _ _ _) ⟨kvs, ep, by simpa using hk, rfl⟩
structure Turn (x y z : Str) (b t mo P cl : Addr) (cs : List Int) (hf : Int) (ads : List Addr) (ts : List (List (Str × V))) (ps : List (List Int)) (f : Addr) (qs : List (Int × Str)) (m : bb) (σ : ah) : Prop where
 B : BookAt [x, y, z] σ b t mo ads ts ps
 xP : σ P = some (.list [.str x, .str y, .str z])
 xc : σ cl = some (.list (cs.map V.int))
 xf : σ f = some (.list (qs.map iv))
 ft : f ∉ [t, mo]
 q3 : qs.length ≤ 3
 hq : ∀ q ∈ qs, 0 ≤ q.1 ∧ q.1 < (ts.length : Int)
 ms : m "_law_script" = some .script
 mb : m "_law_book" = some (.ref b)
 mp : m "_law_paths_here" = some (.ref P)
 mc : m "_law_cells" = some (.ref cl)
 mh : m "_law_half" = some (.int hf)
 mf : m "_law_first" = some (.ref f)
inductive TurnI (x y z : Str) (b t mo P cl : Addr) (cs : List Int) (hf : Int) (i : Nat) (m : bb) (σ : ah) : Prop
 | mk (ads : List Addr) (ts : List (List (Str × V))) (ps : List (List Int)) (f : Addr) (qs : List (Int × Str)) (e : ts.length ≤ 1 + i) (T : Turn x y z b t mo P cl cs hf ads ts ps f qs m σ) : TurnI x y z b t mo P cl cs hf i m σ
theorem ku {ns : List Int} {K : List Str} {σ : ah} {b t mo f : Addr} {ads : List Addr} {ts : List (List (Str × V))} {ps : List (List Int)} {qs : List (Int × Str)} {Q : V → ah → Prop} (B : BookAt K σ b t mo ads ts ps) (xf : σ f = some (.list (qs.map iv))) (q3 : qs.length ≤ 3) (hq : ∀ q ∈ qs, 0 ≤ q.1 ∧ q.1 < (ts.length : Int)) (q : ∀ σ', Grow σ σ' → Q (.bool true) σ') : sp__law_told ns [.ref b, .ref f] σ Q := ⟨K, b, t, mo, ads, ts, ps, f, qs, rfl, B, xf, q3, hq, q⟩
theorem mE {ns : List Int} {x y z : Str} {σ : ah} {b t mo P : Addr} {ads : List Addr} {ts : List (List (Str × V))} {ps : List (List Int)} {i : Int} {Q : V → ah → Prop} (B : BookAt [x, y, z] σ b t mo ads ts ps) (xP : σ P = some (.list [.str x, .str y, .str z])) (hi : i = 1 ∨ i = 7) (q : ∀ qs : List (Int × Str), qs.length ≤ 3 → (∀ q ∈ qs, 0 ≤ q.1 ∧ q.1 < (ts.length : Int)) → dK (qs.map iv) σ Q) : sp__law_asked ns [.script, .ref b, .ref P, .int i] σ Q :=
 ⟨[x, y, z], b, t, mo, ads, ts, ps, P, x, y, z, i, rfl, B, xP, hi, Nat.le_trans (B.un.len x (by simp)) (by decide), Nat.le_trans (B.un.len y (by simp)) (by decide), q⟩
theorem lT {ns : List Int} {x y z : Str} {b t mo P cl : Addr} {cs : List Int} {hf : Int} {i : Nat} {m : bb} {σ : ah} {Q' : Fl → bb → ah → Prop} (hcs : cs.length ≤ 25) (hi : i ≤ cs.length) (hP : P ∉ [t, mo]) (hcl : cl ∉ [t, mo]) (I : TurnI x y z b t mo P cl cs hf i m σ) (mk : m "_law_k" = some (.int i)) (q : ∀ m' σ', TurnI x y z b t mo P cl cs hf (i + 1) m' σ' → Q' .next m' σ') :
  (aq (cZ (fg (aL (av lQ (ae "_law_k") (aE (bS ns) (ai (ae "_law_cells") ar)))) (fg (aL (av bF (av bP (av (aG ns) (ae "_law_cells") (ae "_law_k")) (aw (.int 5))) (aw (.int 0)))) tT)) (aq (bD (aE (sp__law_joins ns) (ai (ae "_law_book") (ai (av (aG ns) (ae "_law_cells") (ae "_law_k")) ar)))) au) (aq (cZ (aL (av lQ (ae "_law_k") (aE (bS ns) (ai (ae "_law_cells") ar)))) (aq (bD (aE (sp__law_grows ns) (ai (ae "_law_book") (ai (av (aG ns) (ae "_law_cells") (ae "_law_k")) (ai (ae "_law_paths_here") ar))))) au) au) au)) au) m σ Q' := by
 obtain ⟨ads, ts, ps, f, qs, e, T⟩ := I
 have xc := T.xc
 have mc := T.mc
 have mb := T.mb
 have mp := T.mp
 have hz : ts.length < 60 := by omega
 have up : ∀ ads' ts' ps' σ', Keep [t, mo] σ σ' → BookAt [x, y, z] σ' b t mo ads' ts' ps' → ts.length ≤ ts'.length → ts'.length ≤ ts.length + 1 → Q' .next m σ' := fun ads' ts' ps' σ' KK B2 l1 l2 =>
  q m σ' ⟨ads', ts', ps', f, qs, by omega, ⟨B2, KK _ _ T.xP hP, KK _ _ xc hcl, KK _ _ T.xf T.ft, T.ft, T.q3, fun w hw => ⟨(T.hq w hw).1, Int.lt_of_lt_of_le (T.hq w hw).2 (Int.ofNat_le.mpr l1)⟩, T.ms, mb, mp, mc, T.mh, T.mf⟩⟩
 rw [aj]
 simp [mk, mc, bT xc]
 by_cases hlt : i < cs.length
 ·simp [hlt]
  obtain ⟨c, hc⟩ : ∃ c, cs[i]? = some c := ⟨_, List.getElem?_eq_getElem hlt⟩
  have item : ∀ {Q : V → ah → Prop}, Q (.int c) σ → aG ns (.ref cl) (.int (i : Int)) σ Q := fun q => bo xc (Int.natCast_nonneg _) (v := .int c) (by rw [List.getElem?_map, Int.toNat_natCast, hc]; rfl) q
  refine item ?_
  simp
  by_cases h5 : c % 5 = 0
  ·have h5' : (5 : Int) ∣ c := Int.dvd_of_emod_eq_zero h5
   simp only [h5, h5', if_true]
   rw [aj]
   simp [mb, mc, mk]
   refine item ?_
   refine ⟨[x, y, z], b, t, mo, ads, ts, ps, c, rfl, T.B, hz, fun ads' ts' ps' σ' KK B2 l1 l2 => ?_⟩
   try simp
   exact up ads' ts' ps' σ' KK B2 l1 l2
  ·have h5' : ¬ (5 : Int) ∣ c := fun h => h5 (Int.emod_eq_zero_of_dvd h)
   simp only [h5, h5', if_false]
   rw [aj]
   simp [mk, mc, bT xc, hlt]
   rw [aj]
   simp [mb, mc, mk, mp]
   refine item ?_
   refine ⟨x, y, z, b, t, mo, ads, ts, ps, c, P, rfl, T.B, T.xP, hz, fun ads' ts' ps' σ' KK B2 l1 l2 => ?_⟩
   try simp
   exact up ads' ts' ps' σ' KK B2 l1 l2
 ·simp [hlt]
  rw [aj]
  simp [mk, mc, bT xc, hlt]
  exact up ads ts ps σ (fun _ _ e _ => e) T.B (Nat.le_refl _) (Nat.le_succ _)
theorem vQ (ns : List Int) : ∀ vs σ Q, kw ns vs σ Q → vs.length = 1 ∧ o0 ns (aC ["_law_script"] vs aH) σ (fin Q) := by
 rintro vs σ Q ⟨rfl, hn, q⟩
 refine ⟨rfl, ?_⟩
 unfold o0
 rw [aj]
 simp [oZ]
 intro b dx hb hdx hne
 refine ⟨b, dx, rfl, an _ _ _, by rw [az hne, an], fun t mo d0 ep σ₁ KK x1 x2 x3 x4 tm ht hmo hd0 => ⟨rfl, ?_⟩⟩
 have hbd : b ∉ [dx] := by simp; exact Ne.symm hne
 rw [aj]
 simp [oY]
 refine ⟨_, rfl, fun x y z hK P hP => ?_⟩
 have B0 : BookAt [x, y, z] σ₁ b t mo [d0] [[]] [[]] := ⟨⟨dx, KK b _ (an _ _ _) hbd, x1⟩, x2, x3, tm, rfl, rfl, fun i d e => by
   have hi : i = 0 := by have := (List.getElem?_eq_some_iff.mp e).1; simp at this; exact this
   subst hi
   simp at e
   subst e
   exact ⟨[], ep, rfl, x4⟩, hK, fun kvs h => by rw [List.mem_singleton.mp h]; exact Inn.nil, xM⟩
 have nt : ∀ {σ : ah} {a : Addr}, Grow σ₁ σ → σ a = Option.none → a ∉ [t, mo] := fun {σ a} g h hm => by
  simp at hm
  rcases hm with rfl | rfl
  ·rw [g _ _ x2] at h; cases h
  ·rw [g _ _ x3] at h; cases h
 have Pn := nt Grow.refl hP
 have g2 : Grow σ₁ (aY σ₁ P (.list [.str x, .str y, .str z])) := Grow.refl.upd hP
 have xP := an σ₁ P (.list [.str x, .str y, .str z])
 generalize (aY σ₁ P (.list [.str x, .str y, .str z])) = σ₂ at g2 xP ⊢
 rw [aj]
 simp [oX]
 intro cl hcl
 have cln := nt g2 hcl
 have hcs := wH ns
 generalize bv ns (some 4) (some 29) = cs at hcs ⊢
 have g3 : Grow σ₂ (aY σ₂ cl (.list (cs.map V.int))) := Grow.refl.upd hcl
 have xcl := an σ₂ cl (.list (cs.map V.int))
 generalize (aY σ₂ cl (.list (cs.map V.int))) = σ₃ at g3 xcl ⊢
 have g13 := g2.trans g3
 rw [aj]
 simp [oW, bT xcl]
 try refine ⟨(by omega : (0 : Int) < (cs.length : Int) + 1), ?_⟩
 generalize cell ns 3 % ((cs.length : Int) + 1) = hf
 rw [aj]
 simp [oV]
 intro f0 hf0
 have f0n := nt g13 hf0
 have g4 : Grow σ₃ (aY σ₃ f0 (.list [])) := Grow.refl.upd hf0
 have xf0 := an σ₃ f0 (.list [])
 generalize (aY σ₃ f0 (.list [])) = σ₄ at g4 xf0 ⊢
 have g14 := g13.trans g4
 have cl4 := g4 _ _ xcl
 rw [aj]
 simp [oU, bT cl4]
 refine ⟨by omega, ?_⟩
 refine aZ (fun i m σ' => TurnI x y z b t mo P cl cs hf i m σ') (fun _ _ _ => False)
  (fun _ _ _ _ => trivial) _ ?_ ?_ (fun _ _ _ h => h.elim) _ _ ⟨[d0], [[]], [[]], f0, [], by decide, ⟨B0.grow g14, (g3.trans g4) _ _ xP, cl4, xf0, f0n, by decide, fun q h => (nomatch h), by simp, by simp, by simp, by simp, by simp, by simp⟩⟩
 ·rintro i v m σ' Q' hv ⟨ads, ts, ps, f, qs, e, T⟩ q1 q2 q3
  have ms := T.ms
  have mb := T.mb
  have mp := T.mp
  have mc := T.mc
  have mh := T.mh
  obtain ⟨hi, rfl⟩ := dg hv
  have hi' : i ≤ cs.length := by omega
  refine ⟨_, rfl, ?_⟩
  rw [aj]
  simp [mh]
  by_cases he : (i : Int) = hf
  ·rw [if_pos he, aj]
   simp [ms, mb, mp]
   refine mE T.B T.xP (.inl rfl) fun qs' h3 hq' f' σ₅ g5 hf' xf' => ?_
   have B5 := T.B.grow g5
   have f'n : f' ∉ [t, mo] := fun hm => by
    simp at hm
    rcases hm with rfl | rfl
    ·rw [T.B.tr] at hf'; cases hf'
    ·rw [T.B.md] at hf'; cases hf'
   rw [aj]
   simp [mb]
   refine ku B5 xf' h3 hq' fun σ₆ g6 => ?_
   simp
   exact lT hcs hi' Pn cln ⟨ads, ts, ps, f', qs', e, ⟨B5.grow g6, g6 _ _ (g5 _ _ T.xP), g6 _ _ (g5 _ _ T.xc), g6 _ _ xf', f'n, h3, hq', by simp [ms], by simp [mb], by simp [mp], by simp [mc], by simp [mh], by simp⟩⟩ (by simp) q1
  ·rw [if_neg he]
   exact lT hcs hi' Pn cln ⟨ads, ts, ps, f, qs, e, ⟨T.B, T.xP, T.xc, T.xf, T.ft, T.q3, T.hq, by simp [ms], by simp [mb], by simp [mp], by simp [mc], by simp [mh], by simp [T.mf]⟩⟩ (by simp) q1
 ·rintro m σ' ⟨ads, ts, ps, f, qs, e, ⟨B, xP, xc, xf, ft, h3, hq, ms, mb, mp, mc, mh, mf⟩⟩
  have few := B.ord.few
  have lenP := B.lenP
  rw [aQ, aj]
  simp [oT, mb, ba B]
  refine ⟨[x, y, z], b, t, mo, ads, ts, ps, rfl, B, ?_⟩
  simp
  refine ⟨by omega, ?_⟩
  refine jU B mb fun ks σ₅ g5 hkl hks => ?_
  intro Kp hKp
  have g6 : Grow σ₅ (aY σ₅ Kp (.list (ks.map V.ref))) := Grow.refl.upd hKp
  have xK := an σ₅ Kp (.list (ks.map V.ref))
  generalize (aY σ₅ Kp (.list (ks.map V.ref))) = σ₆ at g6 xK ⊢
  have g56 := g5.trans g6
  have hks6 := hks.grow g6
  have B6 := B.grow g56
  show aq _ _ _ _ _
  rw [aj]
  simp [oS, ms, mb, mp, mf]
  refine ku B6 (g56 _ _ xf) h3 hq fun σ₇ g7 => ?_
  simp
  have B7 := B6.grow g7
  refine mE B7 (g7 _ _ (g56 _ _ xP)) (.inr rfl) fun qs' h3' hq' f' σ₈ g8 hf' xf' => ?_
  have B8 := B7.grow g8
  try simp
  refine ku B8 xf' h3' hq' fun σ₉ g9 => ?_
  simp
  have B9 := B8.grow g9
  have g69 := g7.trans (g8.trans g9)
  rw [aj]
  simp [oR, mb, ba B9]
  refine ⟨[x, y, z], b, t, mo, ads, ts, ps, rfl, B9, ?_⟩
  simp
  refine ⟨by omega, ?_⟩
  refine jU B9 (by simp [mb]) fun js σA gA hjl hjs => ?_
  intro J hJ
  have gB : Grow σA (aY σA J (.list (js.map V.ref))) := Grow.refl.upd hJ
  have xJ := an σA J (.list (js.map V.ref))
  generalize (aY σA J (.list (js.map V.ref))) = σB at gB xJ ⊢
  have g6B := g69.trans (gA.trans gB)
  try simp
  refine ⟨.inr ⟨J, Kp, _, _, rfl, rfl, xJ, g6B _ _ xK, iR (by rw [hjl, hkl]) fun i a c ha hc => ?_⟩, q _⟩
  obtain ⟨_, o1, y1, kvs, ep1, e1, rfl⟩ := (hjs.grow gB) i a ha
  obtain ⟨_, o2, y2, kvs', ep2, e2, rfl⟩ := (hks6.grow g6B) i c hc
  rw [e1] at e2; cases e2
  exact ⟨a, c, kvs, ep1, ep2, rfl, rfl, y1, y2, (B.tree kvs (List.mem_of_getElem? e1)).val⟩
end Mine
end
noncomputable section
namespace Mine
open PySem PySem.W PyProof.Rows PySem.Calls
set_option maxRecDepth 100000
theorem wJ (P : Params) : nsIn (Hd.kk P) mainGlobals (Str.ofString "Book") = some (some (.ref Hd.bkA)) := by kernel_rfl
theorem wK (P : Params) : wL (Hd.kk P) Hd.bkA Hd.bkN = true := by kernel_rfl
theorem sM {p : Program} {loose : List Str} {mean : ExcName → Option Value} {mg mb : Str → Option Value} {h : Heap} {x : String} (T : Top p loose mean mg mb h) (hf : (!(startupNames ++ loose ++ (recsOf p).map (·.name) ++ (litsOf p).map (·.1) ++ (clssOf p loose).map (·.name)).contains (Str.ofString x)) = true) : mg (Str.ofString x) = none := by
 simp only [Bool.not_eq_true', List.contains_eq_mem, decide_eq_false_iff_not, List.mem_append, not_or] at hf
 obtain ⟨⟨⟨⟨h1, h2⟩, h3⟩, h4⟩, h5⟩ := hf
 exact T.free _ h1 h2 h3 h4 h5
theorem vG : (!(startupNames ++ (looseW Hd.vw []) ++ (recsOf Hd.vw).map (·.name) ++ (litsOf Hd.vw).map (·.1) ++ (clssOf Hd.vw (looseW Hd.vw [])).map (·.name)).contains (Str.ofString "zip")) = true := by decide +kernel
theorem uE {C : Cx} (G : Gl C Hd.vw) (hz : C.held = none) {bk N : Addr} {mN : Str → Option Value} (B : Bk C bk N mN) {P : Params} (KX : (Hd.kk P).In C.hB) (hN : N = Hd.bkN) (hzip : C.mg (Str.ofString "zip") = Option.none) (g1 : GInt C "LONGEST_PART" 12) (g2 : GStr C "SIGNS" (Str.ofString "abcdefghijklmnopqrstuvwxyzABCDEFGHIJKLMNOPQRSTUVWXYZ0123456789.-_")) (g3 : GInt C "MOST_PARTS" 8) : FnAt C 8 "law" (kw C.ns) := by
 have h1 := i8 G hz (uh C.ns)
 have h7 := p3 G hz g1 g2 (vR C.ns)
 have h8 := pZ G hz g3 h7 (ub C.ns)
 have h9 := kP G hz (vT C.ns)
 have hab := sQ G hz (sx C.ns)
 have hal := ma G hz (vU C.ns)
 have hmk := sP G hz hal (sp C.ns)
 have hcg := nQ G hz hmk (nr C.ns)
 have hsd := nO G hz hcg hal (nk C.ns)
 have hcs := p4 G hz hcg hsd hab (px C.ns)
 have hjo := rA G hz hcs hcg hsd hab (qF C.ns)
 have hdo := uO G hz h8 h9 (ug C.ns)
 have hch := p5 G hz hdo (pz C.ns)
 have hin := nS G hz B KX hN (ue C.ns)
 have hne := uL G hz B KX hN (uc C.ns)
 have hma := uM G hz B KX hN (ud C.ns)
 have htr := uJ G hz B KX hN hne (t8 C.ns)
 have hpa := pX G hz B KX hN hne (pq C.ns)
 have hpu := nP G hz B KX hN (nq C.ns)
 have hgr := uN G hz B KX hN hne hch hpu (uf C.ns)
 have hel := rB G hz B KX hN hne (qG C.ns)
 have hna := pY G hz B KX hN hel (pv C.ns)
 have hme := sO G hz B KX hN hne hna hjo hpu (so C.ns)
 have hst := sN G hz B KX hN hel (sk C.ns)
 have hw := kQ G hz (sj C.ns)
 have hsg := i7 G hz (ua C.ns)
 have hps := kR G hz hsg (sm C.ns)
 have hjs := kT G hz B hma hna htr hcs hme (su C.ns)
 have hgs := kU G hz B hma htr hgr (sv C.ns)
 have hkn := kS G hz B hma hpa (sr C.ns)
 have hdu := nR G hz B hkn htr hpa (vS C.ns)
 have hto := mi G hz B hzip hdu hst hw (t9 C.ns)
 have has := kW G hz B h1 hma (sw C.ns)
 exact wr G hz B hin h1 hps has hto hjs hgs hma htr (vQ C.ns)
theorem xX : (["len", "range", "min", "max", "isinstance", "bool", "str", "int", "list", "dict", "set", "sorted", "tuple", "sum", "type"].all fun x : String => !(startupNames ++ (looseW Hd.vw []) ++ (recsOf Hd.vw).map (·.name) ++ (litsOf Hd.vw).map (·.1) ++ (clssOf Hd.vw (looseW Hd.vw [])).map (·.name)).contains (Str.ofString x)) = true := by decide +kernel
theorem v1 : valOf Hd.vw (Str.ofString "LONGEST_PART") = some (.int 12) := by rfl
theorem v2 : valOf Hd.vw (Str.ofString "SIGNS") = some (.str (Str.ofString "abcdefghijklmnopqrstuvwxyzABCDEFGHIJKLMNOPQRSTUVWXYZ0123456789.-_")) := by rfl
theorem v3 : valOf Hd.vw (Str.ofString "MOST_PARTS") = some (.int 8) := by rfl
theorem xW : importsNone Hd.vw = true := by decide +kernel
end Mine
open PySem PySem.W PyProof.Rows PySem.Calls
set_option maxRecDepth 100000
set_option maxHeartbeats 8000000
theorem PySem.Challenge.cw_uf050007_13_holds : PySem.Challenge.rw_uf050007_13.Holds :=
 Mine.Hd.hd (by rfl) (by rfl) (by rfl) (by
 intro w s₀ s₁ mg mb G Y fa o pm cd doc dV kV ho hd hcd hD hmg hg args vals as hpre hlay hrd hwl hlo
 have KX := kIn_of Y
 have X := (Ground.X G).1
 have V := (Ground.X G).2
 refine Ground.open G ?_
 intro T B D TE TW
 try (refine guard_noD D (by decide +kernel) ?_; clear D)
 obtain ⟨_, _, M⟩ := bmod_of_top T
 wrow_args hpre hlay hrd hwl hlo
 all_goals first | refine callC_kw (enter_call ?_) | refine enter_call ?_ | refine callC_kw (enter_callW ?_) | refine enter_callW ?_ | w_how
 rename_i ns _ _ _ _ _ _ _ aS vs _ hL _ _ _ hI _ hn _
 have O : Mine.Cx.Ok ⟨PySem.Challenge.rw_uf050007_13.row.prog, w, s₁, aS, ns, mg, mb, none⟩ := Mine.Cx.ok_of rfl T Mine.xW hL hI hn
 have GG := Mine.Gl.of T O Mine.xX
 have hzip : mg (Str.ofString "zip") = none := Mine.sM T Mine.vG
 have g1 : Mine.GInt ⟨PySem.Challenge.rw_uf050007_13.row.prog, w, s₁, aS, ns, mg, mb, none⟩ "LONGEST_PART" 12 := Mine.GInt.of T Mine.v1
 have g2 : Mine.GStr ⟨PySem.Challenge.rw_uf050007_13.row.prog, w, s₁, aS, ns, mg, mb, none⟩ "SIGNS" (Str.ofString "abcdefghijklmnopqrstuvwxyzABCDEFGHIJKLMNOPQRSTUVWXYZ0123456789.-_") := Mine.GStr.of T Mine.v2
 have g3 : Mine.GInt ⟨PySem.Challenge.rw_uf050007_13.row.prog, w, s₁, aS, ns, mg, mb, none⟩ "MOST_PARTS" 8 := Mine.GInt.of T Mine.v3
 obtain ⟨mN, BK⟩ := Mine.rR (C := ⟨PySem.Challenge.rw_uf050007_13.row.prog, w, s₁, aS, ns, mg, mb, none⟩) KX (Mine.wK w.params) (mg_of KX T.g (Mine.wJ w.params))
 obtain ⟨a, o', fd', e1, e2, e3, S⟩ := Mine.uE GG rfl BK (P := w.params) KX rfl hzip g1 g2 g3
 have ea : a = fa := by
  have := e1.symm.trans hmg
  cases this; rfl
 subst ea
 exact Mine.ri rfl S (by decide) hg (raisesW_false (by wrow_none_raised)) (by wrow_post))
end
