import PyProof.Rows.All
import Wide.All
import OpenK.AllK
import Wide.FinOn
import PyProof.Walks
import PyProof.WalksMore
import PyProof.Cells
import PyProof.DictWalks
import PyProof.StrBlock
import PyProof.CompFree
import PyProof.StrCalls2
import PyProof.DefCall
import PyProof.MakeMany
import PyProof.CallType
import PyProof.Ns1
import PyProof.LetGo
import PyProof.PureInt
import PyProof.StrOps
import PyProof.Rows.RuleB_mod
import PyProof.Rows.RuleB_floordiv
import PyProof.Rows.RuleB_mul
import PyProof.Rows.RuleB_pow
import PyProof.Rows.RuleC_bool
import PyProof.Rows.EqNone
import PyProof.Rows.StrRules
import PyProof.Rows.IntBool
import PyProof.Raises
import PyProof.ForRange
import PyProof.RangeFor
import PyProof.StrWalks
import PyProof.IsiPairs
import PyProof.IsiHeapPairs
import PyProof.WalkInts
import PyProof.SliceMore
import PyProof.SliceStr2
import PyProof.EqAt
import PyProof.ListIndexNeg
import PyProof.StrCalls3
import PyProof.Rows.Tup
import PyProof.Rows.Lst
import PyProof.Rows.SeqMore
import PyProof.StrOps2
import PyProof.DictTruth
import PyProof.EqKinds
import PyProof.StrCalls
import PyProof.CallStr
import PyProof.Conv_int_bool
import PyProof.FactsAll.list
import PyProof.StrLawsOcc
import PyProof.FitsReplace
import PyProof.StrLawsTight
import PyProof.StrBlock2
import KE.KDictList
import KE.KItemsList
import KE.KDictOf
import PyProof.DictRoads
import KE.KEqDict
import PyProof.Rows.SortShellK
import PyProof.Rows.SortStr
import KE.KSortTup
import PyProof.Rows.SetFrom
import KE.KDictSum
import PyProof.Rows.TupReads
import PyProof.RaisesMany
import PyProof.StationsW
import PyProof.Rows.OwnQ
import PyProof.ExcBaseAll.ValueError
import PyProof.ExcAttrAll.ValueError
import PyProof.IsInstance
import PyProof.RulesAs
import PyProof.RulesDel
import PyProof.ObjNew
import PyProof.InstLoad
import PyProof.InstStoreFacts
import PyProof.AssignAttr
import PyProof.Rows.PlainNoArg
import KE.KRevIter
import PyProof.DictTable
import PyProof.Rows.MinMaxN
import PyProof.Rows.Range3
import PyProof.ListMulRoad
import PyProof.TupleIter
import PyProof.NeKinds
import PySem.Challenge.RW_uf050007_12
set_option Elab.async false
set_option linter.unusedVariables false
set_option linter.unusedSimpArgs false
set_option autoImplicit false
noncomputable section
namespace Mine
inductive LT' where
 | v (i : Nat)
 | n (k : Nat)
 | a (x y : LT')
 | m (k : Nat) (x : LT')
noncomputable def LT'.den (c : List Nat) : LT' → Nat
 | .v i => c.getD i 0
 | .n k => k
 | .a x y => x.den c + y.den c
 | .m k x => k * x.den c
structure PL where
 r : List Nat
 k : Nat
noncomputable def PL.ev (c : List Nat) : List Nat → Nat
 | [] => 0
 | q :: r => q * c.headD 0 + PL.ev c.tail r
noncomputable def PL.den (c : List Nat) (p : PL) : Nat := PL.ev c p.r + p.k
noncomputable def oV : List Nat → List Nat → List Nat
 | [], b => b
 | a, [] => a
 | x :: a, y :: b => (x + y) :: oV a b
theorem nv : ∀ (c a b : List Nat), PL.ev c (oV a b) = PL.ev c a + PL.ev c b
 | _, [], b => by simp [oV, PL.ev]
 | _, x :: a, [] => by simp [oV, PL.ev]
 | c, x :: a, y :: b => by
  have ih := nv c.tail a b
  simp only [oV, PL.ev, ih, Nat.add_mul]; exact Nat.add_add_add_comm _ _ _ _
noncomputable def ru : Nat → List Nat
 | 0 => [1]
 | i + 1 => 0 :: ru i
theorem mR : ∀ (i : Nat) (c : List Nat), PL.ev c (ru i) = c.getD i 0
 | 0, [] => rfl
 | 0, x :: c => by simp [ru, PL.ev]
 | i + 1, [] => by
  have := mR i []
  simp [ru, PL.ev] at this ⊢; exact this
 | i + 1, x :: c => by
  have := mR i c
  simp [ru, PL.ev] at this ⊢; exact this
theorem pW (k : Nat) : ∀ (c a : List Nat), PL.ev c (a.map (k * ·)) = k * PL.ev c a
 | _, [] => rfl
 | c, x :: a => by
  have ih := pW k c.tail a
  simp only [List.map_cons, PL.ev, ih, Nat.mul_add, Nat.mul_assoc]
noncomputable def LT'.pl : LT' → PL
 | .v i => ⟨ru i, 0⟩
 | .n k => ⟨[], k⟩
 | .a x y => ⟨oV x.pl.r y.pl.r, x.pl.k + y.pl.k⟩
 | .m k x => ⟨x.pl.r.map (k * ·), k * x.pl.k⟩
theorem kq (c : List Nat) : ∀ x : LT', x.pl.den c = x.den c
 | .v i => by simp [LT'.pl, PL.den, LT'.den, mR]
 | .n k => by simp [LT'.pl, PL.den, LT'.den, PL.ev]
 | .a x y => by
  have h1 := kq c x
  have h2 := kq c y
  unfold PL.den at h1 h2
  simp only [LT'.pl, PL.den, LT'.den, nv]; rw [← h1, ← h2]; exact Nat.add_add_add_comm _ _ _ _
 | .m k x => by
  have h1 := kq c x
  unfold PL.den at h1
  simp only [LT'.pl, PL.den, LT'.den, pW, ← h1, Nat.mul_add]
noncomputable def yC : List Nat → List Nat → Bool
 | _, [] => true
 | [], y :: b => y == 0 && yC [] b
 | x :: a, y :: b => Nat.ble y x && yC a b
theorem qd : ∀ (c a b : List Nat), yC a b = true → PL.ev c b ≤ PL.ev c a
 | _, _, [], _ => Nat.zero_le _
 | c, [], y :: b, h => by
  simp [yC] at h
  have := qd c.tail [] b h.2
  simp [PL.ev, h.1] at this ⊢; exact this
 | c, x :: a, y :: b, h => by
  simp [yC] at h
  have := qd c.tail a b h.2
  have h2 := Nat.mul_le_mul_right (c.headD 0) h.1
  exact Nat.add_le_add h2 this
abbrev Cert := List (Nat × LT' × LT')
noncomputable def Cert.den (c : List Nat) : Cert → Prop → Prop
 | [], g => g
 | (_, x, y) :: r, g => x.den c ≤ y.den c → Cert.den c r g
noncomputable def Cert.sum : Cert → PL × PL
 | [] => (⟨[], 0⟩, ⟨[], 0⟩)
 | (w, x, y) :: r => let s := Cert.sum r; (⟨oV (x.pl.r.map (w * ·)) s.1.r, w * x.pl.k + s.1.k⟩, ⟨oV (y.pl.r.map (w * ·)) s.2.r, w * y.pl.k + s.2.k⟩)
noncomputable def Cert.ok (t : Cert) : Bool := let s := t.sum; yC s.1.r s.2.r && Nat.blt s.2.k s.1.k
theorem oO (c : List Nat) (g : Prop) : ∀ t : Cert, (t.sum.1.den c ≤ t.sum.2.den c → g) → Cert.den c t g
 | [], h => h (Nat.le_refl _)
 | (w, x, y) :: r, h => fun hxy => oO c g r fun hr => h (by
   have h1 := kq c x
   have h2 := kq c y
   have h3 := Nat.mul_le_mul_left w hxy
   rw [← h1, ← h2] at h3
   unfold PL.den at h3 hr ⊢
   simp only [Cert.sum, nv, pW]
   rw [Nat.mul_add, Nat.mul_add] at h3
   have h4 := Nat.add_le_add h3 hr
   rw [Nat.add_add_add_comm] at h4
   exact Nat.le_trans h4 (Nat.le_of_eq (Nat.add_add_add_comm _ _ _ _)))
theorem AW (c : List Nat) (t : Cert) (h : t.ok = true) : Cert.den c t False := oO c False t fun hs => by
 unfold Cert.ok at h
 simp only [Bool.and_eq_true, Nat.blt_eq] at h
 have h1 := qd c _ _ h.1
 have h2 := h.2
 exact Nat.lt_irrefl _ (Nat.lt_of_lt_of_le (Nat.add_lt_add_of_le_of_lt h1 h2) hs)
end Mine
namespace Mine
theorem dE (a b : Nat) : a ≤ a - b + b := Nat.sub_le_iff_le_add.mp (Nat.le_refl _)
theorem dj {a b : Nat} (h : b ≤ a) : a - b + b ≤ a := Nat.le_of_eq (Nat.sub_add_cancel h)
theorem pC (a b : Nat) : a - b + b = a ∨ a - b = 0 := (Nat.le_total b a).imp Nat.sub_add_cancel Nat.sub_eq_zero_of_le
theorem Aw (a k : Nat) : k * (a / k) ≤ a := Nat.mul_div_le a k
theorem Ax (a k : Nat) (h : 0 < k) : a < k * (a / k) + k := Nat.lt_of_le_of_lt (Nat.le_of_eq (Nat.div_add_mod a k).symm) (Nat.add_lt_add_left (Nat.mod_lt a h) _)
theorem xx (a b : Nat) : a ≤ min a b ∨ b ≤ min a b := (Nat.le_total a b).imp (fun h => Nat.le_min.mpr ⟨Nat.le_refl _, h⟩) (fun h => Nat.le_min.mpr ⟨h, Nat.le_refl _⟩)
theorem Al (a b : Nat) : max a b ≤ a ∨ max a b ≤ b := (Nat.le_total b a).imp (fun h => Nat.max_le.mpr ⟨Nat.le_refl _, h⟩) (fun h => Nat.max_le.mpr ⟨h, Nat.le_refl _⟩)
abbrev u0 : LT' := .v 0
abbrev u1 : LT' := .v 1
abbrev u2 : LT' := .v 2
abbrev u3 : LT' := .v 3
theorem dK {a b : Nat} (h : ¬ a < b) : b ≤ a := Nat.le_of_not_lt h
theorem oj {a b : Nat} (h : ¬ a ≤ b) : b < a := Nat.lt_of_not_le h
theorem oJ {α : Type} {l : List α} {i : Nat} (h : l.drop i = []) (hi : i ≤ l.length) : i = l.length := Nat.le_antisymm hi (List.drop_eq_nil_iff.mp h)
theorem q9 {α : Type} {l r : List α} {x : α} {i : Nat} (h : l.drop i = x :: r) : i < l.length := Nat.lt_of_not_le fun g => by rw [List.drop_eq_nil_of_le g] at h; cases h
theorem AE {a j L c d k : Nat} (h : a + c * (j + 1) + d < L) (hk : k ≤ c) : a + k + c * j + d < L :=
 Nat.lt_of_le_of_lt (Nat.add_le_add_right (by rw [Nat.add_assoc, Nat.add_comm k]; exact Nat.add_le_add_left (Nat.add_le_add_left hk _) a) d) h
noncomputable def dT : Nat → Nat → (LT' → Nat → Cert) → Cert
 | 0, _, _ => []
 | f + 1, c, k => bif Nat.beq (c % 32) 0 then dT f (c / 32) fun x r => dT f r fun y s => k (.a x y) s
  else bif Nat.beq (c % 32) 3 then dT f (c / 32) fun x r => k (.a x (.n 1)) r
  else bif Nat.beq (c % 32) 1 then k (.n (c / 1024 % 32 ^ (c / 32 % 32))) (c / 1024 / 32 ^ (c / 32 % 32))
  else bif Nat.beq (c % 32) 2 then dT f (c / 1024) fun x r => k (.m (c / 32 % 32) x) r
  else k (.v (c % 32 - 4)) (c / 32)
noncomputable def dR : Nat → Nat → Cert
 | 0, _ => []
 | f + 1, c => bif Nat.beq c 0 then [] else dT 12 (c / 32) fun x r => dT 12 r fun y s => (c % 32, x, y) :: dR f s
theorem lN (c : List Nat) (n : Nat) (h : (dR 20 n).ok = true) : Cert.den c (dR 20 n) False := AW c (dR 20 n) h
end Mine
end
noncomputable section
set_option tactic.hygienic false
namespace Mine
open PySem
inductive V where
 | none
 | bool (b : Bool)
 | int (i : Int)
 | str (s : Str)
 | ref (a : Addr)
 | script
 | ty (n : String)
 | tup (vs : List V)
inductive AObj where
 | list (xs : List V)
 | dict (kvs : List (Str × V)) (ep : Nat)
 | idict (kvs : List (Int × V)) (ep : Nat)
 | inst (dx : Addr)
 | ns (fs : List (String × V))
abbrev ag := Addr → Option AObj
abbrev aU := String → Option V
noncomputable def a8 (σ : ag) (a : Addr) (o : AObj) : ag := fun b => if b = a then some o else σ b
noncomputable def put (m : aU) (x : String) (v : V) : aU := fun y => bif y == x then some v else m y
@[simp] theorem an (σ : ag) (a : Addr) (o : AObj) : a8 σ a o a = some o := by simp [a8]
theorem aI {σ : ag} {a b : Addr} {o : AObj} (h : b ≠ a) : a8 σ a o b = σ b := by simp [a8, h]
theorem u6 {σ : ag} {a b : Addr} {o o' : AObj} (ha : σ a = none) (hb : σ b = some o') : a8 σ a o b = some o' := by
 rw [aI (by rintro rfl; rw [ha] at hb; cases hb), hb]
@[simp low] theorem kj (m : aU) (x : String) (v : V) : put m x v x = some v := by simp [put]
theorem fJ {m : aU} {x y : String} {v : V} (h : y ≠ x) : put m x v y = m y := by unfold put; rw [beq_false_of_ne h]; rfl
structure Cx where
 prog : Program
 w : World
 s₁ : Shared
 aS : Addr
 ns : List Int
 mg : Str → Option Value
 mb : Str → Option Value
 held : Option Addr := none
abbrev Cx.hB (C : Cx) : Heap := C.s₁.heap
structure Cx.Ok (C : Cx) : Prop where
 g : C.hB.Ns mainGlobals C.mg
 b : C.hB.Ns builtinsNs C.mb
 nolimit : C.hB.NoLimit
 mods : ∃ o, C.hB.get? sysModules = some o
 few : C.ns.length ≤ 63
 heldOk : ∀ e, C.held = some e → ∃ o vs, C.hB.get? e = some o ∧ o.data = .fields vs ∧ vs[2]? = some .none
 script : ∃ ws, C.hB.IsList C.aS ws ∧ ws.toList.length = C.ns.length ∧ ∀ (i : Nat) n, C.ns[i]? = some n → ∃ t, ws.toList[i]? = some (Value.int n t)
noncomputable def AV (w : Value) : Bool := match w with | .none => false | .ref _ => false | _ => true
noncomputable def z0 (ws : List Value) : Bool := match ws with | [] => true | w :: _ => AV w
noncomputable def AU (v : V) : Bool := match v with | .bool _ => true | .int _ => true | .str _ => true | .ty _ => true | _ => false
noncomputable def xC (vs : List V) : Bool := match vs with | [] => true | v :: _ => AU v
theorem Cx.Ok.noMods {C : Cx} (O : C.Ok) {a : Addr} (h : C.hB.get? a = none) : (a == sysModules) = false := by
 obtain ⟨o, ho⟩ := O.mods
 simp only [beq_eq_false_iff_ne]
 rintro rfl
 rw [ho] at h; cases h
mutual
inductive VRel (aS : Addr) (h : Heap) : V → Value → Prop
 | none : VRel aS h .none .none
 | bool (b : Bool) : VRel aS h (.bool b) (.bool b)
 | int (i : Int) (t : Tok) : VRel aS h (.int i) (.int i t)
 | str (x : Str) (t : Tok) : VRel aS h (.str x) (.str x t)
 | ref (a : Addr) : VRel aS h (.ref a) (.ref a)
 | script : VRel aS h .script (.ref aS)
 | ty (n : String) : VRel aS h (.ty n) (.type n)
 | tup {vs : List V} {a : Addr} {ws : List Value} : h.IsTuple a ws.toArray → VRels aS h vs ws → z0 ws = true → VRel aS h (.tup vs) (.ref a)
inductive VRels (aS : Addr) (h : Heap) : List V → List Value → Prop
 | nil : VRels aS h [] []
 | cons {v : V} {w : Value} {vs : List V} {ws : List Value} : VRel aS h v w → VRels aS h vs ws → VRels aS h (v :: vs) (w :: ws)
end
noncomputable def jN (o : Obj) : Prop := o.cls = .type "tuple" ∧ ∃ it n, o.data = .seq it n ∧ z0 it.toList = true
noncomputable def a0 (h h' : Heap) : Prop := ∀ b o, h.get? b = some o → jN o → h'.get? b = some o
theorem VRel.keep {aS : Addr} {h h' : Heap} (k : a0 h h') {v : V} {w : Value} (x : VRel aS h v w) : VRel aS h' v w :=
 VRel.rec (motive_1 := fun v w _ => VRel aS h' v w) (motive_2 := fun vs ws _ => VRels aS h' vs ws) .none .bool .int .str .ref .script .ty (fun ht _ hb ih => .tup (let ⟨o, ho, hc, n, r⟩ := ht; ⟨o, k _ o ho ⟨hc, _, n, r, hb⟩, hc, n, r⟩) ih hb) .nil (fun _ _ a b => .cons a b) x
theorem VRels.inv0 {aS : Addr} {h : Heap} {ws : List Value} (x : VRels aS h [] ws) : ws = [] := by cases x; rfl
theorem VRels.invC {aS : Addr} {h : Heap} {a : V} {as : List V} {ws : List Value} (x : VRels aS h (a :: as) ws) : ∃ w ws', ws = w :: ws' ∧ VRel aS h a w ∧ VRels aS h as ws' := by
 cases x with
 | cons h1 r => exact ⟨_, _, rfl, h1, r⟩
theorem VRels.ind {aS : Addr} {h : Heap} {P : List V → List Value → Prop} (h0 : P [] []) (h1 : ∀ v w vs ws, VRel aS h v w → VRels aS h vs ws → P vs ws → P (v :: vs) (w :: ws)) {vs : List V} {ws : List Value} (x : VRels aS h vs ws) : P vs ws := by
 induction vs generalizing ws with
 | nil => rw [x.inv0]; exact h0
 | cons v vs ih => obtain ⟨w, ws, rfl, a, r⟩ := x.invC; exact h1 _ _ _ _ a r (ih r)
theorem VRels.keep {aS : Addr} {h h' : Heap} (k : a0 h h') {vs : List V} {ws : List Value} (x : VRels aS h vs ws) : VRels aS h' vs ws :=
 x.ind .nil fun _ _ _ _ a _ ih => .cons (a.keep k) ih
theorem wJ {aS : Addr} {h : Heap} {vs : List V} {ws : List Value} (x : VRels aS h vs ws) (q : xC vs = true) : z0 ws = true := by
 cases vs with
 | nil => rw [x.inv0]; rfl
 | cons v vs =>
  obtain ⟨w, ws, rfl, y, _⟩ := x.invC
  cases y <;> first | rfl | exact Bool.noConfusion q
theorem VRels.length {aS : Addr} {h : Heap} {vs : List V} {ws : List Value} (x : VRels aS h vs ws) : vs.length = ws.length :=
 x.ind (P := fun vs ws => vs.length = ws.length) rfl fun _ _ _ _ _ _ ih => congrArg (· + 1) ih
theorem VRels.get {aS : Addr} {h : Heap} {vs : List V} {ws : List Value} (x : VRels aS h vs ws) : ∀ {i : Nat} {v : V}, vs[i]? = some v → ∃ w, ws[i]? = some w ∧ VRel aS h v w :=
 x.ind (P := fun vs ws => ∀ {i : Nat} {v : V}, vs[i]? = some v → ∃ w, ws[i]? = some w ∧ VRel aS h v w) (fun e => by cases e) fun _ w _ _ a _ ih i _ e => by
  cases i with
  | zero => cases e; exact ⟨w, rfl, a⟩
  | succ i => exact ih e
theorem VRel.invStr {aS : Addr} {h : Heap} {x : Str} {w : Value} (r : VRel aS h (.str x) w) : ∃ t, w = .str x t := by cases r; exact ⟨_, rfl⟩
theorem VRel.invInt {aS : Addr} {h : Heap} {x : Int} {w : Value} (r : VRel aS h (.int x) w) : ∃ t, w = .int x t := by cases r; exact ⟨_, rfl⟩
theorem VRels.append {aS : Addr} {h : Heap} {vs vs' : List V} {ws ws' : List Value} (x : VRels aS h vs ws) (y : VRels aS h vs' ws') : VRels aS h (vs ++ vs') (ws ++ ws') :=
 x.ind (P := fun vs ws => VRels aS h (vs ++ vs') (ws ++ ws')) y fun _ _ _ _ a _ ih => .cons a ih
noncomputable def PRel {K : Type} (aS : Addr) (h : Heap) : List (K × V) → List (K × Value) → Prop
 | [], [] => True
 | (k, v) :: r, (k', w) :: r' => k = k' ∧ VRel aS h v w ∧ PRel aS h r r'
 | _, _ => False
theorem PRel.ind {K : Type} {aS : Addr} {h : Heap} {P : List (K × V) → List (K × Value) → Prop} (h0 : P [] []) (h1 : ∀ k v w r r', VRel aS h v w → PRel aS h r r' → P r r' → P ((k, v) :: r) ((k, w) :: r')) {a : List (K × V)} {b : List (K × Value)} (x : PRel aS h a b) : P a b := by
 induction a generalizing b with
 | nil => cases b with
  | nil => exact h0
  | cons _ _ => exact False.elim x
 | cons p a ih => cases b with
  | nil => exact False.elim x
  | cons q b =>
   obtain ⟨k, v⟩ := p
   obtain ⟨k', w⟩ := q
   have y : k = k' ∧ VRel aS h v w ∧ PRel aS h a b := x
   obtain ⟨rfl, y, r⟩ := y
   exact h1 _ _ _ _ _ y r (ih r)
theorem PRel.keep {K : Type} {aS : Addr} {h h' : Heap} (k : a0 h h') {a : List (K × V)} {b : List (K × Value)} (x : PRel aS h a b) : PRel aS h' a b :=
 x.ind trivial fun _ _ _ _ _ v _ ih => ⟨rfl, v.keep k, ih⟩
theorem PRel.length {K : Type} {aS : Addr} {h : Heap} {a : List (K × V)} {b : List (K × Value)} (x : PRel aS h a b) : a.length = b.length :=
 x.ind (P := fun a b => a.length = b.length) rfl fun _ _ _ _ _ _ _ ih => congrArg (· + 1) ih
theorem PRel.get {K : Type} {aS : Addr} {h : Heap} {a : List (K × V)} {b : List (K × Value)} (x : PRel aS h a b) : ∀ {i : Nat} {k : K} {v : V}, a[i]? = some (k, v) → ∃ w, b[i]? = some (k, w) ∧ VRel aS h v w :=
 x.ind (P := fun a b => ∀ {i : Nat} {k : K} {v : V}, a[i]? = some (k, v) → ∃ w, b[i]? = some (k, w) ∧ VRel aS h v w) (fun e => by simp at e) fun _ _ w _ _ hv _ ih i _ _ e => by
  cases i with
  | zero => cases e; exact ⟨w, rfl, hv⟩
  | succ i => exact ih e
noncomputable def ObjRel (C : Cx) (h : Heap) (a : Addr) : AObj → Prop
 | .list xs => xs.length ≤ 16777216 ∧ ∃ ws : List Value, h.PlainList a ws.toArray ∧ VRels C.aS h xs ws
 | .dict kvs ep => kvs.length ≤ 16777216 ∧ ∃ kws, h.DictAt (strKind C.prog C.w) a kws ep ∧ PRel C.aS h kvs kws
 | .idict kvs ep => kvs.length ≤ 16777216 ∧ ∃ kws, h.DictAt (intKind C.prog C.w) a kws ep ∧ PRel C.aS h kvs kws
 | .inst dx => ∃ cl, C.mg (Str.ofString "Book") = some (.ref cl) ∧ dx ≠ a ∧ h.get? a = some { cls := .ref cl, dict := some dx, data := .plain }
 | .ns fs => fs.length ≤ 1000 ∧ ∃ mA : Str → Option Value, h.Ns1 a mA ∧ (∀ x v, fs.lookup x = some v → ∃ w, mA (Str.ofString x) = some w ∧ VRel C.aS h v w) ∧ ∀ y : Str, (∀ q ∈ fs, y ≠ Str.ofString q.1) → mA y = none
theorem ObjRel.keep {C : Cx} {h h' : Heap} {a : Addr} {o : AObj} (x : ObjRel C h a o) (k : a0 h h') (ka : ∀ o, h.get? a = some o → h'.get? a = some o) : ObjRel C h' a o := by
 cases o with
 | list xs => obtain ⟨hz, ws, h1, h2⟩ := x; exact ⟨hz, ws, h1.at ka, h2.keep k⟩
 | dict kvs ep => obtain ⟨hz, ws, h1, h2⟩ := x; exact ⟨hz, ws, h1.at' ka, h2.keep k⟩
 | idict kvs ep => obtain ⟨hz, ws, h1, h2⟩ := x; exact ⟨hz, ws, h1.at' ka, h2.keep k⟩
 | inst dx => obtain ⟨cl, h1, h2, h3⟩ := x; exact ⟨cl, h1, h2, ka _ h3⟩
 | ns fs => obtain ⟨hz, mA, h1, h2, h3⟩ := x; exact ⟨hz, mA, h1.at ka, fun y v e => let ⟨w, a, b⟩ := h2 y v e; ⟨w, a, b.keep k⟩, h3⟩
theorem ObjRel.shape {C : Cx} {h : Heap} {a : Addr} {o : AObj} (x : ObjRel C h a o) : ∃ ob, h.get? a = some ob ∧ ¬ jN ob ∧ ∀ v, ob.data ≠ .cell v := by
 cases o with
 | list xs => obtain ⟨_, ws, ⟨n, h1⟩, h2⟩ := x; exact ⟨_, h1, by simp [jN], by simp⟩
 | dict kvs ep => obtain ⟨_, ws, ⟨o, es, ho, hc, hd, _⟩, h2⟩ := x; exact ⟨o, ho, by simp [jN, hd], by rw [hd]; simp⟩
 | idict kvs ep => obtain ⟨_, ws, ⟨o, es, ho, hc, hd, _⟩, h2⟩ := x; exact ⟨o, ho, by simp [jN, hd], by rw [hd]; simp⟩
 | inst dx => obtain ⟨cl, h1, h2, h3⟩ := x; exact ⟨_, h3, by simp [jN], by simp⟩
 | ns fs => obtain ⟨_, mA, ⟨o, es, ep, ho, hd, _⟩, h2⟩ := x; exact ⟨o, ho, by simp [jN, hd], by rw [hd]; simp⟩
structure RelG (C : Cx) (σ : ag) (s : Shared) : Prop where
 rest : ∃ h tk d, s = { C.s₁ with heap := h, toks := tk, drawn := d }
 base : ∀ b o, C.hB.get? b = some o → s.heap.get? b = some o
 view : ∀ a o, σ a = some o → ObjRel C s.heap a o
 apart : ∀ a, σ a ≠ none → C.hB.get? a = none
noncomputable def Like (o o' : Obj) : Prop := o' = o ∨ ((∃ es ep, o.data = .dict es ep) ∧ ∃ sl, o' = { o with slots := sl })
theorem Like.refl (o : Obj) : Like o o := .inl rfl
theorem Like.trans {a b c : Obj} (x : Like a b) (y : Like b c) : Like a c := by
 rcases x with rfl | ⟨⟨es, ep, hd⟩, sl, rfl⟩
 ·exact y
 ·rcases y with rfl | ⟨_, sl', rfl⟩
  ·exact .inr ⟨⟨es, ep, hd⟩, sl, rfl⟩
  ·exact .inr ⟨⟨es, ep, hd⟩, sl', rfl⟩
theorem Like.ns {h h' : Heap} {a : Addr} {m : Str → Option Value} (hn : h.Ns a m) (k : ∀ o, h.get? a = some o → ∃ o', h'.get? a = some o' ∧ Like o o') : h'.Ns a m := by
 obtain ⟨o, es, ep, ho, hd, r⟩ := hn
 obtain ⟨o', ho', hl⟩ := k o ho
 rcases hl with rfl | ⟨_, sl, rfl⟩
 ·exact ⟨_, es, ep, ho', hd, r⟩
 ·exact ⟨_, es, ep, ho', hd, r⟩
structure Step (own : Addr → Prop) (σ σ' : ag) (h h' : Heap) : Prop where
 keepL : ∀ b o, h.get? b = some o → σ b = none → ¬ own b → ∃ o', h'.get? b = some o' ∧ Like o o'
 size : h.objs.size ≤ h'.objs.size
 new : ∀ b, σ b = none → σ' b ≠ none → h.objs.size ≤ b
noncomputable def no : Addr → Prop := fun _ => False
theorem Step.of {own : Addr → Prop} {σ σ' : ag} {h h' : Heap} (k : ∀ b o, h.get? b = some o → σ b = none → ¬ own b → h'.get? b = some o) (size : h.objs.size ≤ h'.objs.size) (new : ∀ b, σ b = none → σ' b ≠ none → h.objs.size ≤ b) : Step own σ σ' h h' :=
 ⟨fun b o e n q => ⟨o, k b o e n q, Like.refl o⟩, size, new⟩
theorem Step.keep {own : Addr → Prop} {σ σ' : ag} {h h' : Heap} (x : Step own σ σ' h h') (b : Addr) (o : Obj) (e : h.get? b = some o) (n : σ b = none) (q : ¬ own b) (hd : ∀ es ep, o.data ≠ .dict es ep) : h'.get? b = some o := by
 obtain ⟨o', h1, h2⟩ := x.keepL b o e n q
 rcases h2 with rfl | ⟨⟨es, ep, z⟩, _⟩
 ·exact h1
 ·exact absurd z (hd es ep)
theorem Step.mono {own own' : Addr → Prop} {σ σ' : ag} {h h' : Heap} (x : Step own σ σ' h h') (k : ∀ b o, h.get? b = some o → own b → own' b) : Step own' σ σ' h h' :=
 ⟨fun b o e n q => x.keepL b o e n fun z => q (k b o e z), x.size, x.new⟩
theorem RelG.dom {C : Cx} {σ : ag} {s : Shared} (R : RelG C σ s) : ∀ b, σ b ≠ none → s.heap.get? b ≠ none := fun b hb => by
 cases e : σ b with
 | none => exact absurd e hb
 | some o => obtain ⟨ob, h1, _⟩ := (R.view b o e).shape; rw [h1]; simp
theorem Step.refl {own : Addr → Prop} {σ : ag} {h : Heap} : Step own σ σ h h :=
 .of (fun _ _ e _ _ => e) (Nat.le_refl _) fun _ h h' => absurd h h'
theorem Step.trans {own : Addr → Prop} {σ₁ σ₂ σ₃ : ag} {h₁ h₂ h₃ : Heap} (x : Step own σ₁ σ₂ h₁ h₂) (y : Step own σ₂ σ₃ h₂ h₃) : Step own σ₁ σ₃ h₁ h₃ where
 keepL := fun b o e n q => by
  obtain ⟨o', h1, h2⟩ := x.keepL b o e n q
  obtain ⟨o'', h3, h4⟩ := y.keepL b o' h1 (by
   cases z : σ₂ b with
   | none => rfl
   | some o' => have := x.new b n (by rw [z]; simp); exact absurd (Heap.lt_size e) (Nat.not_lt.mpr this)) q
  exact ⟨o'', h3, h2.trans h4⟩
 size := Nat.le_trans x.size y.size
 new := fun b n m => by
  cases z : σ₂ b with
  | some o' => exact x.new b n (by rw [z]; simp)
  | none => exact Nat.le_trans x.size (y.new b z m)
theorem Step.tups {C : Cx} {own : Addr → Prop} {σ σ' : ag} {s : Shared} {h' : Heap} (R : RelG C σ s) (x : Step own σ σ' s.heap h') (ho : ∀ b o, own b → s.heap.get? b = some o → ¬ jN o) : a0 s.heap h' := fun b o e hc =>
 x.keep b o e (by
  cases z : σ b with
  | none => rfl
  | some o' => obtain ⟨ob, h1, h2, _⟩ := (R.view b o' z).shape; rw [e] at h1; cases h1; exact absurd hc h2) (fun z => ho b o z e hc) (fun es ep z => by obtain ⟨_, it, n, hd, _⟩ := hc; rw [hd] at z; cases z)
theorem Step.tupsN {C : Cx} {σ σ' : ag} {s : Shared} {h' : Heap} (R : RelG C σ s) (x : Step no σ σ' s.heap h') : a0 s.heap h' := x.tups R fun _ _ z => z.elim
theorem RelG.grow {C : Cx} {σ : ag} {s : Shared} {h' : Heap} {tk : Nat} (R : RelG C σ s) (k : ∀ b o, s.heap.get? b = some o → h'.get? b = some o) : RelG C σ { s with heap := h', toks := tk } where
 rest := let ⟨_, _, d, e⟩ := R.rest; ⟨h', tk, d, by rw [e]⟩
 base := fun b o e => k b o (R.base b o e)
 view := fun a o e => (R.view a o e).keep (fun b o e _ => k b o e) fun o e => k a o e
 apart := R.apart
theorem Step.grow {own : Addr → Prop} {σ : ag} {h h' : Heap} (k : ∀ b o, h.get? b = some o → h'.get? b = some o) (z : h.objs.size ≤ h'.objs.size) : Step own σ σ h h' :=
 .of (fun b o e _ _ => k b o e) z fun _ h h' => absurd h h'
theorem Step.push {own : Addr → Prop} {σ : ag} {h : Heap} {o : Obj} : Step own σ σ h (h.push o) := .grow (fun _ _ e => Heap.get?_push_of_some _ e) (by rw [Heap.size_push]; exact Nat.le_succ _)
theorem RelG.draw {C : Cx} {σ : ag} {s : Shared} (R : RelG C σ s) (d : Drawn) : RelG C σ { s with drawn := d } where
 rest := let ⟨h, tk, _, e⟩ := R.rest; ⟨h, tk, d, by rw [e]⟩
 base := R.base
 view := R.view
 apart := R.apart
theorem RelG.tok {C : Cx} {σ : ag} {s : Shared} (R : RelG C σ s) (tk : Nat) : RelG C σ { s with toks := tk } := R.grow fun _ _ e => e
theorem RelG.freshNone {C : Cx} {σ : ag} {s : Shared} (R : RelG C σ s) {a : Addr} (h : s.heap.get? a = none) : σ a = none := by
 cases e : σ a with
 | none => rfl
 | some o => exact absurd h (R.dom a (by rw [e]; simp))
theorem bw (h : Heap) : h.get? h.objs.size = none := by
 cases e : h.get? h.objs.size with
 | none => rfl
 | some o => exact absurd (Heap.lt_size e) (Nat.lt_irrefl _)
theorem RelG.baseNone {C : Cx} {σ : ag} {s : Shared} (R : RelG C σ s) {a : Addr} (h : s.heap.get? a = none) : C.hB.get? a = none := by
 cases e : C.hB.get? a with
 | none => rfl
 | some o => rw [R.base a o e] at h; cases h
theorem RelG.add {C : Cx} {σ : ag} {s : Shared} {h' : Heap} {tk : Nat} {a : Addr} {o : AObj} (R : RelG C σ s) (k : ∀ b o, s.heap.get? b = some o → h'.get? b = some o) (hn : s.heap.get? a = none) (ho : ObjRel C h' a o) :
  RelG C (a8 σ a o) { s with heap := h', toks := tk } where
 rest := (R.grow (tk := tk) k).rest
 base := (R.grow (tk := tk) k).base
 view := fun b o' e => by
  by_cases hb : b = a
  ·subst hb; rw [an] at e; cases e; exact ho
  ·rw [aI hb] at e; exact (R.grow (tk := tk) k).view b o' e
 apart := fun b hb => by
  by_cases q : b = a
  ·subst q; exact R.baseNone hn
  ·rw [aI q] at hb; exact R.apart b hb
theorem Step.add {own : Addr → Prop} {σ : ag} {h h' : Heap} {a : Addr} {o : AObj} (k : ∀ b o, h.get? b = some o → h'.get? b = some o) (z : h.objs.size ≤ h'.objs.size) (hn : h.objs.size ≤ a) : Step own σ (a8 σ a o) h h' :=
 .of (fun b o e _ _ => k b o e) z fun b n m => by
  by_cases q : b = a
  ·subst q; exact hn
  ·rw [aI q] at m; exact absurd n m
theorem Step.addPush {own : Addr → Prop} {σ : ag} {h : Heap} {ob : Obj} {o : AObj} : Step own σ (a8 σ h.objs.size o) h (h.push ob) := .add (fun _ _ e => Heap.get?_push_of_some _ e) (by rw [Heap.size_push]; exact Nat.le_succ _) (Nat.le_refl _)
theorem RelG.change {C : Cx} {σ : ag} {s : Shared} {h' : Heap} {tk : Nat} {a : Addr} {o o' : AObj} (R : RelG C σ s) (ha : σ a = some o) (k : Heap.SameBut a s.heap h') (ho : ObjRel C h' a o') : RelG C (a8 σ a o') { s with heap := h', toks := tk } where
 rest := let ⟨_, _, d, e⟩ := R.rest; ⟨h', tk, d, by rw [e]⟩
 base := fun b o e => (k.2 b (by rintro rfl; rw [R.apart b (by rw [ha]; simp)] at e; cases e)).trans (R.base b o e)
 view := fun b o₂ e => by
  by_cases hb : b = a
  ·subst hb; rw [an] at e; cases e; exact ho
  ·rw [aI hb] at e
   refine (R.view b o₂ e).keep (fun c oc ec hc => ?_) fun oc ec => (k.2 b hb).trans ec
   exact (k.2 c (by rintro rfl; obtain ⟨ob, h1, h2, _⟩ := (R.view c o ha).shape; rw [ec] at h1; cases h1; exact h2 hc)).trans ec
 apart := fun b hb => by
  by_cases q : b = a
  ·subst q; exact R.apart b (by rw [ha]; simp)
  ·rw [aI q] at hb; exact R.apart b hb
theorem Step.change {own : Addr → Prop} {σ : ag} {h h' : Heap} {a : Addr} {o o' : AObj} (ha : σ a = some o) (k : Heap.SameBut a h h') : Step own σ (a8 σ a o') h h' :=
 .of (fun b o₂ e n _ => (k.2 b (by rintro rfl; rw [ha] at n; cases n)).trans e) (Nat.le_of_eq k.1.symm)
   fun b n m => by
  by_cases q : b = a
  ·subst q; rw [ha] at n; cases n
  ·rw [aI q] at m; exact absurd n m
theorem aB {h : Heap} {a : Addr} (q : h.objs.size ≤ a) : h.get? a = none := by
 cases e : h.get? a with
 | none => rfl
 | some o => exact absurd (Heap.lt_size e) (Nat.not_lt.mpr q)
theorem iT {M : Model} {Γ : Ctx} {p : Pos} {t : Sem Fin} {fs : List Frame} {s s' : Shared} {e : End} (h : Runs M Γ p t fs s e s') : s.heap.objs.size ≤ s'.heap.objs.size := by
 induction h <;> (try simp only [Shared.setGen, Heap.size_push, Heap.size_after_update] at *) <;> omega
theorem px {M : Model} {Γ : Ctx} {p : Pos} {g : Nat} {r : Resume} {s s' : Shared} {res : GenResult} (h : Wakes M Γ p g r s res s') : s.heap.objs.size ≤ s'.heap.objs.size := by
 unfold Wakes at h
 split at h
 ·exact h.elim
 ·split at h
  ·obtain ⟨e₁, s₁, hr, _, _, rfl⟩ := h; exact (iT hr : (s.setGen g .running).heap.objs.size ≤ s₁.heap.objs.size)
  ·rw [h.2]; exact Nat.le_refl _
  ·rw [h.2]; exact Nat.le_refl _
 ·obtain ⟨e₁, s₁, hr, _, _, rfl⟩ := h; exact (iT hr : (s.setGen g .running).heap.objs.size ≤ s₁.heap.objs.size)
 ·rw [h.2]; exact Nat.le_refl _
 ·rw [h.2]; exact Nat.le_refl _
theorem u4 {α : Type} (M : Model) (Γ : Ctx) (n : Nat) (t : Sem α) : ∀ (Q : α → Pos → Shared → Prop) (E : Value → Pos → Shared → Prop) (p : Pos) (s : Shared), n ≤ s.heap.objs.size → Sem.wp M Γ t Q E p s →
  Sem.wp M Γ t (fun a p' s' => n ≤ s'.heap.objs.size ∧ Q a p' s') (fun e p' s' => n ≤ s'.heap.objs.size ∧ E e p' s') p s := by
 induction t with
 | pure a | raise a => intro Q E p s hn h; exact ⟨hn, h⟩
 | unsupported | finish | register | yield | fork | await => intro Q E p s _ h; exact h
 | rule _ k ih | «at» _ k ih | point _ k ih | ask k ih | handled _ k ih | stack k ih | thread k ih | loadIfAlive _ k ih | fresh k ih | os _ _ k ih | newGen _ k ih => intro Q E p s hn h; exact ih _ Q E _ _ hn h
 | load a _ k ih => intro Q E p s hn h; obtain ⟨o, ho, h⟩ := h; exact ⟨o, ho, ih o Q E p s hn h⟩
 | update a _ f k ih => intro Q E p s hn h; exact ⟨h.1, ih () Q E p _ (by simpa using hn) h.2⟩
 | alloc o k ih => intro Q E p s hn h; exact ih _ Q E p _ (by simp; omega) h
 | choose src m k ih => intro Q E p s hn h; exact ⟨h.1, ih _ Q E p _ hn h.2⟩
 | call c hd _ _ k ih => intro Q E p s hn h; obtain ⟨r, s', hr, h⟩ := h; exact ⟨r, s', hr, ih r Q E p s' (Nat.le_trans hn (iT hr)) h⟩
 | genState g k ih => intro Q E p s hn h; obtain ⟨st, hs, h⟩ := h; exact ⟨st, hs, ih _ Q E p s hn h⟩
 | resume g r _ k ih => intro Q E p s hn h; obtain ⟨res, s', hw, h⟩ := h; exact ⟨res, s', hw, ih res Q E p s' (Nat.le_trans hn (px hw)) h⟩
theorem a7 {α : Type} {M : Model} {A : Around} {s : Shared} {t : Sem α} {Q : α → Shared → Prop} {E : Value → Shared → Prop}
  (h : wpAny M A t (fun a s' => s.heap.objs.size ≤ s'.heap.objs.size → Q a s') E s) : wpAny M A t Q E s :=
 fun Γ p hΓ => Sem.wp_mono M Γ t (fun _ _ _ x => x.2 x.1) (fun _ _ _ x => x.2) p s (u4 M Γ _ t _ _ p s (Nat.le_refl _) (h Γ p hΓ))
noncomputable def AR (σ : ag) (a : Addr) : ag := fun b => if b = a then none else σ b
end Mine
end
noncomputable section
set_option tactic.hygienic false
namespace Mine
open PySem
noncomputable def jd (env : Env) (b : Addr) : Prop := b = env.locals ∨ ∃ n, env.cells.lookup n = some b
structure FrameRel (C : Cx) (env : Env) (m : aU) (σ : ag) (h : Heap) : Prop where
 ns : ∃ mm, h.Ns env.locals mm ∧ ∀ x v, m x = some v → env.kindOf (Str.ofString x) = some .local → ∃ w, mm (Str.ofString x) = some w ∧ VRel C.aS h v w
 cel : ∀ x v, m x = some v → env.kindOf (Str.ofString x) = some .local ∨
  ((env.kindOf (Str.ofString x) = some .cell ∨ env.kindOf (Str.ofString x) = some .free) ∧ ∃ c w, env.cells.lookup (Str.ofString x) = some c ∧ h.IsCell c (some w) ∧ VRel C.aS h v w)
 cells : ∀ n c, env.cells.lookup n = some c → ∃ v, h.IsCell c v
 sepL : σ env.locals = none
 baseL : C.hB.get? env.locals = none
 baseC : ∀ n c, env.cells.lookup n = some c → C.hB.get? c = none
 dist : env.cells.Pairwise fun x y => x.2 ≠ y.2
 has : ∀ n, env.kindOf n = some .cell ∨ env.kindOf n = some .free → ∃ c, env.cells.lookup n = some c
theorem FrameRel.step {C : Cx} {env : Env} {m : aU} {σ σ' : ag} {s : Shared} {h' : Heap} (F : FrameRel C env m σ s.heap) (R : RelG C σ s) (S : Step no σ σ' s.heap h') : FrameRel C env m σ' h' := by
 have kt := S.tupsN R
 have kc : ∀ c v, s.heap.IsCell c v → h'.IsCell c v := fun c v ⟨o, ho, hd⟩ => ⟨o, S.keep c o ho (by
  cases z : σ c with
  | none => rfl
  | some o' => obtain ⟨ob, h1, _, h3⟩ := (R.view c o' z).shape; rw [ho] at h1; cases h1; exact absurd hd (h3 v)) (fun z => z) (fun es ep z => by rw [hd] at z; cases z), hd⟩
 obtain ⟨mm, hn, hv⟩ := F.ns
 have hl : ∃ o, s.heap.get? env.locals = some o := let ⟨o, _, _, ho, _⟩ := hn; ⟨o, ho⟩
 refine ⟨⟨mm, Like.ns hn fun o e => S.keepL _ o e F.sepL (fun z => z), fun x v e k => ?_⟩, fun x v e => ?_, fun n c e => ?_, ?_, F.baseL, F.baseC, F.dist, F.has⟩
 ·obtain ⟨w, h1, h2⟩ := hv x v e k; exact ⟨w, h1, h2.keep kt⟩
 ·rcases F.cel x v e with q | ⟨q, c, w, h1, h2, h3⟩
  ·exact .inl q
  ·exact .inr ⟨q, c, w, h1, kc _ _ h2, h3.keep kt⟩
 ·obtain ⟨v, hv⟩ := F.cells n c e; exact ⟨v, kc _ _ hv⟩
 ·cases z : σ' env.locals with
  | none => rfl
  | some o => obtain ⟨ol, hol⟩ := hl; have := S.new env.locals F.sepL (by rw [z]; simp); exact absurd (Heap.lt_size hol) (Nat.not_lt.mpr this)
structure AOk (C : Cx) (A : Around) (k : Nat) : Prop where
 handled : A.handled = C.held.map Value.ref
 depth : A.depth + 3 * k + 3 < recursionLimit
 units : A.units + 10 * k + 20 < cLine
theorem AOk.le {C : Cx} {A : Around} {k j : Nat} (x : AOk C A k) (h : j ≤ k) : AOk C A j := ⟨x.handled, Nat.lt_of_le_of_lt (Nat.add_le_add_right (Nat.add_le_add_left (Nat.mul_le_mul_left 3 h) _) _) x.depth, Nat.lt_of_le_of_lt (Nat.add_le_add_right (Nat.add_le_add_left (Nat.mul_le_mul_left 10 h) _) _) x.units⟩
theorem AOk.none {C : Cx} {A : Around} {k : Nat} (x : AOk C A k) (hp : C.held = none) : A.handled = none := by rw [x.handled, hp]; rfl
structure EnvOk (env : Env) (sc : Scope) : Prop where
 scope : env.scope = sc
 kind : sc.kind = .function
 globals : env.globals = mainGlobals
 builtins : env.builtins = builtinsNs
theorem EnvOk.k {env : Env} {sc : Scope} (e : EnvOk env sc) : env.scope.kind = .function := by rw [e.scope]; exact e.kind
theorem EnvOk.of {env : Env} {sc : Scope} (e : EnvOk env sc) {x : Str} {n : Option NameKind} (h : sc.names.lookup x = n) : env.kindOf x = n := by unfold Env.kindOf; rw [e.scope]; exact h
abbrev ET := aU → ag → (V → ag → Prop) → Prop
abbrev BT := aU → ag → (Bool → ag → Prop) → Prop
abbrev LT := aU → ag → (List V → ag → Prop) → Prop
structure HE (C : Cx) (sc : Scope) (k : Nat) (e : Expr) (T : ET) : Prop where
 run : ∀ (env : Env) (A : Around) (s : Shared) (m : aU) (σ : ag) (Q : V → ag → Prop) (P : Value → Shared → Prop) (E : Value → Shared → Prop),
  EnvOk env sc → AOk C A k → RelG C σ s → FrameRel C env m σ s.heap → T m σ Q →
  (∀ v w σ' s', VRel C.aS s'.heap v w → RelG C σ' s' → Step no σ σ' s.heap s'.heap → Q v σ' → P w s') →
  wpAny (model C.prog C.w) A (eval e env) P E s
structure HB (C : Cx) (sc : Scope) (k : Nat) (e : Expr) (T : BT) : Prop where
 run : ∀ (env : Env) (A : Around) (s : Shared) (m : aU) (σ : ag) (Q : Bool → ag → Prop) (P : Bool → Shared → Prop) (E : Value → Shared → Prop),
  EnvOk env sc → AOk C A k → RelG C σ s → FrameRel C env m σ s.heap → T m σ Q →
  (∀ b σ' s', RelG C σ' s' → Step no σ σ' s.heap s'.heap → Q b σ' → P b s') →
  wpAny (model C.prog C.w) A (isTrue e env (eval e env)) P E s
structure HL (C : Cx) (sc : Scope) (k : Nat) (es : List Expr) (T : LT) : Prop where
 run : ∀ (env : Env) (A : Around) (s : Shared) (m : aU) (σ : ag) (pos : Pos) (Q : List V → ag → Prop) (P : List Value → Shared → Prop) (E : Value → Shared → Prop),
  EnvOk env sc → AOk C A k → RelG C σ s → FrameRel C env m σ s.heap → T m σ Q →
  (∀ vs ws σ' s', VRels C.aS s'.heap vs ws → RelG C σ' s' → Step no σ σ' s.heap s'.heap → Q vs σ' → P ws s') →
  wpAny (model C.prog C.w) A (spliced (backTo pos (starEach es env))) P E s
section
variable {C : Cx} {sc : Scope} {k : Nat}
noncomputable def atK {α : Type} (o : Option α) (F : α → Prop) : Prop := match o with | some v => F v | none => False
theorem atK.elim {α : Type} {o : Option α} {F : α → Prop} (h : atK o F) : ∃ v, o = some v ∧ F v := by
 cases o with
 | none => exact False.elim h
 | some v => exact ⟨v, rfl, h⟩
noncomputable def isB (v : V) (F : Bool → Prop) : Prop := match v with | .bool b => F b | _ => False
theorem isB.elim {v : V} {F : Bool → Prop} (h : isB v F) : ∃ b, v = .bool b ∧ F b := by
 cases v <;> first | exact False.elim h | exact ⟨_, rfl, h⟩
noncomputable def on1 (vs : List V) (F : V → Prop) : Prop := match vs with | [a] => F a | _ => False
theorem on1.elim {vs : List V} {F : V → Prop} (h : on1 vs F) : ∃ a, vs = [a] ∧ F a := by
 rcases vs with _ | ⟨a, _ | ⟨b, r⟩⟩
 ·exact False.elim h
 ·exact ⟨a, rfl, h⟩
 ·exact False.elim h
noncomputable def on2 (vs : List V) (F : V → V → Prop) : Prop := match vs with | a :: r => on1 r (F a) | _ => False
theorem on2.elim {vs : List V} {F : V → V → Prop} (h : on2 vs F) : ∃ a b, vs = [a, b] ∧ F a b := by
 rcases vs with _ | ⟨a, r⟩
 ·exact False.elim h
 ·obtain ⟨b, rfl, h⟩ := on1.elim h; exact ⟨a, b, rfl, h⟩
noncomputable def isS (v : V) (F : Str → Prop) : Prop := match v with | .str x => F x | _ => False
theorem isS.elim {v : V} {F : Str → Prop} (h : isS v F) : ∃ x, v = .str x ∧ F x := by
 cases v <;> first | exact False.elim h | exact ⟨_, rfl, h⟩
noncomputable def isI (v : V) (F : Int → Prop) : Prop := match v with | .int x => F x | _ => False
theorem isI.elim {v : V} {F : Int → Prop} (h : isI v F) : ∃ x, v = .int x ∧ F x := by
 cases v <;> first | exact False.elim h | exact ⟨_, rfl, h⟩
noncomputable def isR (v : V) (F : Addr → Prop) : Prop := match v with | .ref x => F x | _ => False
theorem isR.elim {v : V} {F : Addr → Prop} (h : isR v F) : ∃ x, v = .ref x ∧ F x := by
 cases v <;> first | exact False.elim h | exact ⟨_, rfl, h⟩
noncomputable def isT (v : V) (F : String → Prop) : Prop := match v with | .ty x => F x | _ => False
theorem isT.elim {v : V} {F : String → Prop} (h : isT v F) : ∃ x, v = .ty x ∧ F x := by
 cases v <;> first | exact False.elim h | exact ⟨_, rfl, h⟩
noncomputable def onR (vs : List V) (F : Addr → Prop) : Prop := on1 vs fun a => isR a fun x => F x
theorem onR.elim {vs : List V} {F : Addr → Prop} (h : onR vs F) : ∃ x, vs = [.ref x] ∧ F x := by
 obtain ⟨a, rfl, h⟩ := on1.elim h
 obtain ⟨x, rfl, h⟩ := isR.elim h
 exact ⟨x, rfl, h⟩
noncomputable def onI (vs : List V) (F : Int → Prop) : Prop := on1 vs fun a => isI a fun x => F x
theorem onI.elim {vs : List V} {F : Int → Prop} (h : onI vs F) : ∃ x, vs = [.int x] ∧ F x := by
 obtain ⟨a, rfl, h⟩ := on1.elim h
 obtain ⟨x, rfl, h⟩ := isI.elim h
 exact ⟨x, rfl, h⟩
noncomputable def onB (vs : List V) (F : Bool → Prop) : Prop := on1 vs fun a => isB a fun x => F x
theorem onB.elim {vs : List V} {F : Bool → Prop} (h : onB vs F) : ∃ x, vs = [.bool x] ∧ F x := by
 obtain ⟨a, rfl, h⟩ := on1.elim h
 obtain ⟨x, rfl, h⟩ := isB.elim h
 exact ⟨x, rfl, h⟩
noncomputable def onRS (vs : List V) (F : Addr → Str → Prop) : Prop := on2 vs fun a b => isR a fun x => isS b fun y => F x y
theorem onRS.elim {vs : List V} {F : Addr → Str → Prop} (h : onRS vs F) : ∃ x y, vs = [.ref x, .str y] ∧ F x y := by
 obtain ⟨a, b, rfl, h⟩ := on2.elim h
 obtain ⟨x, rfl, h⟩ := isR.elim h
 obtain ⟨y, rfl, h⟩ := isS.elim h
 exact ⟨x, y, rfl, h⟩
noncomputable def onSS (vs : List V) (F : Str → Str → Prop) : Prop := on2 vs fun a b => isS a fun x => isS b fun y => F x y
theorem onSS.elim {vs : List V} {F : Str → Str → Prop} (h : onSS vs F) : ∃ x y, vs = [.str x, .str y] ∧ F x y := by
 obtain ⟨a, b, rfl, h⟩ := on2.elim h
 obtain ⟨x, rfl, h⟩ := isS.elim h
 obtain ⟨y, rfl, h⟩ := isS.elim h
 exact ⟨x, y, rfl, h⟩
noncomputable def onII (vs : List V) (F : Int → Int → Prop) : Prop := on2 vs fun a b => isI a fun x => isI b fun y => F x y
theorem onII.elim {vs : List V} {F : Int → Int → Prop} (h : onII vs F) : ∃ x y, vs = [.int x, .int y] ∧ F x y := by
 obtain ⟨a, b, rfl, h⟩ := on2.elim h
 obtain ⟨x, rfl, h⟩ := isI.elim h
 obtain ⟨y, rfl, h⟩ := isI.elim h
 exact ⟨x, y, rfl, h⟩
noncomputable def onSR (vs : List V) (F : Str → Addr → Prop) : Prop := on2 vs fun a b => isS a fun x => isR b fun y => F x y
theorem onSR.elim {vs : List V} {F : Str → Addr → Prop} (h : onSR vs F) : ∃ x y, vs = [.str x, .ref y] ∧ F x y := by
 obtain ⟨a, b, rfl, h⟩ := on2.elim h
 obtain ⟨x, rfl, h⟩ := isS.elim h
 obtain ⟨y, rfl, h⟩ := isR.elim h
 exact ⟨x, y, rfl, h⟩
noncomputable def onRV (vs : List V) (F : Addr → V → Prop) : Prop := on2 vs fun a b => isR a fun x => F x b
theorem onRV.elim {vs : List V} {F : Addr → V → Prop} (h : onRV vs F) : ∃ x y, vs = [.ref x, y] ∧ F x y := by
 obtain ⟨a, b, rfl, h⟩ := on2.elim h
 obtain ⟨x, rfl, h⟩ := isR.elim h
 exact ⟨x, b, rfl, h⟩
noncomputable def onVT (vs : List V) (F : V → String → Prop) : Prop := on2 vs fun a b => isT b fun y => F a y
theorem onVT.elim {vs : List V} {F : V → String → Prop} (h : onVT vs F) : ∃ x y, vs = [x, .ty y] ∧ F x y := by
 obtain ⟨a, b, rfl, h⟩ := on2.elim h
 obtain ⟨y, rfl, h⟩ := isT.elim h
 exact ⟨a, y, rfl, h⟩
noncomputable def ae (x : String) : ET := fun m σ Q => atK (m x) fun v => Q v σ
theorem ac {x : String} {pos : Pos} (h : sc.names.lookup (Str.ofString x) = some .local) (hd : (Str.ofString x == ("__debug__" : Str)) = false) : HE C sc k (.Name (Str.ofString x) pos) (ae x) := by
 refine ⟨?_⟩; intro env A s m σ Q P E en ao R F q₀ hP
 obtain ⟨v, hv, q⟩ := q₀.elim
 obtain ⟨mm, hn, hm⟩ := F.ns
 obtain ⟨w, hw, hr⟩ := hm x v hv (en.of h)
 exact wpAny_Name (wpAny_loadName_local en.k (en.of h) hn hw (hP v w σ s hr R Step.refl q)) hd
theorem nK {x : String} {pos : Pos} (h : sc.names.lookup (Str.ofString x) = some .cell) (hd : (Str.ofString x == ("__debug__" : Str)) = false) : HE C sc k (.Name (Str.ofString x) pos) (ae x) := by
 refine ⟨?_⟩; intro env A s m σ Q P E en ao R F q₀ hP
 obtain ⟨v, hv, q⟩ := q₀.elim
 have kk := en.of h
 rcases F.cel x v hv with z | ⟨_, c, w, h1, h2, h3⟩
 ·rw [kk] at z; cases z
 ·exact wpAny_Name (wpAny_loadName_cell en.k kk h1 h2 (hP v w σ s h3 R Step.refl q)) hd
noncomputable def az (v : V) : ET := fun _ σ Q => Q v σ
theorem rl (O : C.Ok) {x : String} {pos : Pos} {v : V} {w : Value} (h : sc.names.lookup (Str.ofString x) = some .globalImplicit) (hg : C.mg (Str.ofString x) = some w) (hv : ∀ h, VRel C.aS h v w) (hd : (Str.ofString x == ("__debug__" : Str)) = false) :
  HE C sc k (.Name (Str.ofString x) pos) (az v) := by
 refine ⟨?_⟩; intro env A s m σ Q P E en ao R F q hP
 exact Calls.Name_function_global en.k (en.of h) (Calls.loadGlobal_global (mg := C.mg) (by rw [en.globals]; exact O.g.keeps R.base) hg (hP v w σ s (hv _) R Step.refl q)) hd
theorem aA {i : Int} {n : Nat} {pos : Pos} : HE C sc k (.Constant (.int i) n pos) (az (.int i)) := by
 refine ⟨?_⟩; intro env A s m σ Q P E en ao R F q hP
 exact wpAny_Constant_int (hP _ _ σ _ (.int i _) (R.tok _) (Step.refl) q)
theorem bD {x : Str} {n : Nat} {pos : Pos} : HE C sc k (.Constant (.str x) n pos) (az (.str x)) := by
 refine ⟨?_⟩; intro env A s m σ Q P E en ao R F q hP
 exact Calls.Constant_str (hP _ _ σ _ (.str x _) (R.tok _) (Step.refl) q)
theorem bd {b : Bool} {n : Nat} {pos : Pos} : HE C sc k (.Constant (.bool b) n pos) (az (.bool b)) := by
 refine ⟨?_⟩; intro env A s m σ Q P E en ao R F q hP
 exact wpAny_Constant_bool (hP _ _ σ _ (.bool b) R (Step.refl) q)
theorem iM {n : Nat} {pos : Pos} : HE C sc k (.Constant .none n pos) (az .none) := by
 refine ⟨?_⟩; intro env A s m σ Q P E en ao R F q hP
 exact wpAny_Constant_none (hP _ _ σ _ .none R (Step.refl) q)
theorem qD (O : C.Ok) {x n : String} {pos : Pos} (h : sc.names.lookup (Str.ofString x) = some .globalImplicit) (hg : C.mg (Str.ofString x) = Option.none) (hb : C.mb (Str.ofString x) = some (.type n)) (hd : (Str.ofString x == ("__debug__" : Str)) = false) :
  HE C sc k (.Name (Str.ofString x) pos) (az (.ty n)) := by
 refine ⟨?_⟩; intro env A s m σ Q P E en ao R F q hP
 exact Calls.Name_function_global en.k (en.of h) (Calls.loadGlobal_builtin (mg := C.mg) (mb := C.mb) (by rw [en.globals]; exact O.g.keeps R.base) hg (by rw [en.builtins]; exact O.b.keeps R.base) hb (hP _ _ σ s (.ty n) R Step.refl q)) hd
noncomputable def ay : LT := fun _ σ Q => Q [] σ
noncomputable def ai (T : ET) (L : LT) : LT := fun m σ Q => T m σ fun v σ₁ => L m σ₁ fun vs σ₂ => Q (v :: vs) σ₂
theorem ak : HL C sc k [] ay := by
 refine ⟨?_⟩; intro env A s m σ pos Q P E en ao R F q hP
 exact Calls.spliced_nil (hP [] [] σ s .nil R Step.refl q)
noncomputable def eU : Expr → Bool
 | .Starred .. => false
 | _ => true
theorem bz {e : Expr} {rest : List Expr} {env : Env} (h : eU e = true) : starEach (e :: rest) env = (false, eval e env) :: starEach rest env := by
 cases e <;> first | rfl | cases h
theorem af {e : Expr} {es : List Expr} {T : ET} {L : LT} (he : HE C sc k e T) (hl : HL C sc k es L) (hs : eU e = true) : HL C sc k (e :: es) (ai T L) := by
 refine ⟨?_⟩; intro env A s m σ pos Q P E en ao R F q hP
 rw [bz hs]
 show wpAny _ A (spliced ((false, eval e env) :: backTo pos (starEach es env))) P E s
 refine Calls.spliced_cons (he.run env A s m σ _ _ E en ao R F q fun v w σ₁ s₁ hv R₁ S₁ q₁ => ?_)
 exact hl.run env A s₁ m σ₁ pos _ _ E en ao R₁ (F.step R S₁) q₁ fun vs ws σ₂ s₂ hvs R₂ S₂ q₂ => hP _ _ σ₂ s₂ (.cons (hv.keep (S₂.tupsN R₁)) hvs) R₂ (S₁.trans S₂) q₂
noncomputable def gY (L : LT) : ET := fun m σ Q => L m σ fun vs σ₁ => (vs.length ≤ 1000 ∧ xC vs = true) ∧ Q (.tup vs) σ₁
theorem a4 {h : Heap} {o : Obj} : ∀ b o', h.get? b = some o' → (h.push o).get? b = some o' := fun _ _ e => Heap.get?_push_of_some _ e
theorem dn {es : List Expr} {L : LT} {n : Nat} {pos : Pos} (hl : HL C sc k es L) : HE C sc k (.Tuple es n pos) (gY L) := by
 refine ⟨?_⟩; intro env A s m σ Q P E en ao R F q hP
 show wpAny _ A (do standAt pos; newTuple (← spliced (backTo pos (starEach es env)))) P E s
 refine wpAny_bind (wpAny_standAt (wpAny_bind (hl.run env A s m σ pos _ _ E en ao R F q fun vs ws σ₁ s₁ hv R₁ S₁ q₁ => ?_)))
 have hlen := hv.length
 refine wpAny_newTuple (hP _ _ σ₁ _ (.tup (ws := ws) ⟨_, Heap.get?_push_size _ rfl, rfl, _, rfl⟩ (hv.keep fun _ _ e _ => a4 _ _ e) (wJ hv q₁.1.2)) (R₁.grow a4) (S₁.trans .push) q₁.2) (by rw [← hlen, sizeLine_eq]; exact Nat.le_trans q₁.1.1 (by decide))
noncomputable def cJ (xs : List V) (σ : ag) (Q : V → ag → Prop) : Prop := ∀ a, σ a = none → Q (.ref a) (a8 σ a (.list xs))
noncomputable def eB (L : LT) : ET := fun m σ Q => L m σ fun vs σ₁ => vs.length ≤ 1000 ∧ cJ vs σ₁ Q
theorem cR {es : List Expr} {L : LT} {pos : Pos} (hl : HL C sc k es L) : HE C sc k (.List es pos) (eB L) := by
 refine ⟨?_⟩; intro env A s m σ Q P E en ao R F q hP
 show wpAny _ A (do standAt pos; newList (← spliced (backTo pos (starEach es env)))) P E s
 refine wpAny_bind (wpAny_standAt (wpAny_bind (hl.run env A s m σ pos _ _ E en ao R F q fun vs ws σ₁ s₁ hv R₁ S₁ q₁ => ?_)))
 have hlen := hv.length
 have hn := bw s₁.heap
 refine wpAny_newList (hP _ _ (a8 σ₁ s₁.heap.objs.size (.list vs)) _ (.ref _) (R₁.add (tk := s₁.toks) a4 hn ⟨Nat.le_trans q₁.1 (by decide), ws, ⟨_, Heap.get?_push_size _ rfl⟩, hv.keep fun _ _ e _ => a4 _ _ e⟩) (S₁.trans .addPush) (q₁.2 _ (R₁.freshNone hn))) (by rw [← hlen, sizeLine_eq]; exact Nat.le_trans q₁.1 (by decide))
end
end Mine
end
noncomputable section
set_option tactic.hygienic false
namespace Mine
open PySem
abbrev O2 := V → V → ag → (V → ag → Prop) → Prop
abbrev O1 := V → ag → (V → ag → Prop) → Prop
abbrev uX (C : Cx) (σ : ag) (s : Shared) (Q : V → ag → Prop) (P : Value → Shared → Prop) : Prop :=
 ∀ v w σ' s', VRel C.aS s'.heap v w → RelG C σ' s' → Step no σ σ' s.heap s'.heap → Q v σ' → P w s'
noncomputable def hW (C : Cx) (k : Nat) (t : Value → Value → Sem Value) (op : O2) : Prop :=
 ∀ (A : Around) (s : Shared) (σ : ag) (a b : V) (wa wb : Value) (Q : V → ag → Prop) (P E : Value → Shared → Prop), AOk C A k → RelG C σ s → VRel C.aS s.heap a wa → VRel C.aS s.heap b wb → op a b σ Q → uX C σ s Q P →
  wpAny (model C.prog C.w) A (t wa wb) P E s
noncomputable def AT (C : Cx) (k : Nat) (t : Value → Sem Value) (op : O1) : Prop :=
 ∀ (A : Around) (s : Shared) (σ : ag) (a : V) (wa : Value) (Q : V → ag → Prop) (P E : Value → Shared → Prop), AOk C A k → RelG C σ s → VRel C.aS s.heap a wa → op a σ Q → uX C σ s Q P →
  wpAny (model C.prog C.w) A (t wa) P E s
noncomputable def ax (op : O2) (T U : ET) : ET := fun m σ Q => T m σ fun a σ₁ => U m σ₁ fun b σ₂ => op a b σ₂ Q
noncomputable def vW (op : O1) (T : ET) : ET := fun m σ Q => T m σ fun a σ₁ => op a σ₁ Q
section
variable {C : Cx} {sc : Scope} {k : Nat}
theorem two {op : O2} {t : Value → Value → Sem Value} {T U : ET} {e f : Expr} (hop : hW C k t op) (he : HE C sc k e T) (hf : HE C sc k f U) {env : Env} {A : Around} {s : Shared} {m : aU} {σ : ag} {Q : V → ag → Prop} {P E : Value → Shared → Prop}
  (en : EnvOk env sc) (ao : AOk C A k) (R : RelG C σ s) (F : FrameRel C env m σ s.heap) (q : ax op T U m σ Q) (hP : uX C σ s Q P) :
  wpAny (model C.prog C.w) A (eval e env) (fun a s₁ => wpAny (model C.prog C.w) A (eval f env) (fun b s₂ => wpAny (model C.prog C.w) A (t a b) P E s₂) E s₁) E s :=
 he.run env A s m σ _ _ E en ao R F q fun a wa σ₁ s₁ va R₁ S₁ q₁ =>
  hf.run env A s₁ m σ₁ _ _ E en ao R₁ (F.step R S₁) q₁ fun b wb σ₂ s₂ vb R₂ S₂ q₂ =>
   hop A s₂ σ₂ a b wa wb Q P E ao R₂ (va.keep (S₂.tupsN R₁)) vb q₂ fun v w σ' s' hv R' S' q' => hP v w σ' s' hv R' ((S₁.trans S₂).trans S') q'
theorem aK {op : O2} {o : Operator} {l r : Expr} {pos : Pos} {T U : ET} (hop : hW C k (binaryOp o) op) (hl : HE C sc k l T) (hr : HE C sc k r U) : HE C sc k (.BinOp l o r pos) (ax op T U) := by
 refine ⟨?_⟩; intro env A s m σ Q P E en ao R F q hP
 exact wpAny_BinOp (two hop hl hr en ao R F q hP)
theorem cu {op : O2} {o : CmpOp} {l r : Expr} {pos : Pos} {T U : ET} (hop : hW C k (compareOp o) op) (hl : HE C sc k l T) (hr : HE C sc k r U) (hm : behindInMarks o r = false) : HE C sc k (.Compare l [o] [r] pos) (ax op T U) := by
 refine ⟨?_⟩; intro env A s m σ Q P E en ao R F q hP
 exact wpAny_Compare1 (two hop hl hr en ao R F q hP) hm
theorem pq {op : O1} {o : UnaryOp} {e : Expr} {pos : Pos} {T : ET} (hop : AT C k (unaryOp o) op) (he : HE C sc k e T) : HE C sc k (.UnaryOp o e pos) (vW op T) := by
 refine ⟨?_⟩; intro env A s m σ Q P E en ao R F q hP
 exact wpAny_UnaryOp (he.run env A s m σ _ _ E en ao R F q fun a wa σ₁ s₁ va R₁ S₁ q₁ =>
  hop A s₁ σ₁ a wa Q P E ao R₁ va q₁ fun v w σ' s' hv R' S' q' => hP v w σ' s' hv R' (S₁.trans S') q')
noncomputable def aJ (T : ET) : BT := fun m σ Q => T m σ fun v σ' => isB v fun b => Q b σ'
theorem aO {op : O2} {o : CmpOp} {l r : Expr} {pos : Pos} {T U : ET} (hop : hW C k (compareOp o) op) (hl : HE C sc k l T) (hr : HE C sc k r U) (hm : behindInMarks o r = false) : HB C sc k (.Compare l [o] [r] pos) (aJ (ax op T U)) := by
 refine ⟨?_⟩; intro env A s m σ Q P E en ao R F q hP
 refine wpAny_isTrue_Compare1 (two (P := fun c s₃ => wpAny _ A (truthy c) P E s₃) hop hl hr en ao R F q fun v w σ' s' hv R' S' q' => ?_) hm
 replace q' := q'.elim
 obtain ⟨b, rfl, q'⟩ := q'
 cases hv
 exact wpAny_truthy_bool (hP b σ' s' R' S' q')
noncomputable def qJ (o1 o2 : O2) (T U W : ET) : BT := fun m σ Q => T m σ fun a σ₁ => U m σ₁ fun b σ₂ => o1 a b σ₂ fun v σ₃ => isB v fun x => if x then W m σ₃ fun c σ₄ => o2 b c σ₄ fun u σ₅ => isB u fun y => Q y σ₅ else Q false σ₃
theorem rn {p1 p2 : O2} {o1 o2 : CmpOp} {l r z : Expr} {pos : Pos} {T U W : ET} (h1 : hW C k (compareOp o1) p1) (h2 : hW C k (compareOp o2) p2) (hl : HE C sc k l T) (hr : HE C sc k r U) (hz : HE C sc k z W) (hm : behindInMarks o2 z = false) :
  HB C sc k (.Compare l [o1, o2] [r, z] pos) (qJ p1 p2 T U W) := by
 refine ⟨?_⟩; intro env A s m σ Q P E en ao R F q hP
 show wpAny _ A (do testChain pos (← eval l env) [o1, o2] [eval r env, markedBehindIn o2 z (eval z env)]) P E s
 rw [markedBehindIn_of_false hm]
 refine wpAny_bind (hl.run env A s m σ _ _ E en ao R F q fun a wa σ₁ s₁ va R₁ S₁ q₁ => ?_)
 show wpAny _ A (do
  let rv ← holding [wa] (eval r env)
  standAt pos
  let c ← holding [wa, rv] (compareOp o1 wa rv)
  release [wa, rv] [c]
  if ← holding [c, rv] (truthy c) then testChain pos rv [o2] [eval z env] else pure false) P E s₁
 refine wpAny_bind (wpAny_holding (hr.run env A s₁ m σ₁ _ _ E en ao R₁ (F.step R S₁) q₁ fun b wb σ₂ s₂ vb R₂ S₂ q₂ => ?_))
 refine wpAny_bind (wpAny_standAt (wpAny_bind (wpAny_holding ?_)))
 refine h1 A s₂ σ₂ a b wa wb _ _ E ao R₂ (va.keep (S₂.tupsN R₁)) vb q₂ fun v w σ₃ s₃ hv R₃ S₃ q₃ => ?_
 replace q₃ := q₃.elim
 obtain ⟨x, rfl, q₃⟩ := q₃
 cases hv
 refine wpAny_bind ?_
 intro Γ p hΓ
 rw [Sem.wp_release]
 refine wpAny_bind (wpAny_holding (wpAny_truthy_bool ?_))
 have S₁₃ := (S₁.trans S₂).trans S₃
 cases x with
 | false => exact wpAny_pure (hP false σ₃ s₃ R₃ S₁₃ (by simpa using q₃))
 | true =>
  simp only [if_true] at q₃ ⊢
  show wpAny _ A (do
   let rv ← holding [wb] (eval z env)
   standAt pos
   let c ← operate [wb, rv] (compareOp o2 wb rv)
   holding [c] (truthy c)) P E s₃
  refine wpAny_bind (wpAny_holding (hz.run env A s₃ m σ₃ _ _ E en ao R₃ (F.step R S₁₃) q₃ fun c wc σ₄ s₄ vc R₄ S₄ q₄ => ?_))
  refine wpAny_bind (wpAny_standAt (wpAny_bind (wpAny_operating ?_)))
  refine h2 A s₄ σ₄ b c wb wc _ _ E ao R₄ ((vb.keep (S₃.tupsN R₂)).keep (S₄.tupsN R₃)) vc q₄ fun v w σ₅ s₅ hv R₅ S₅ q₅ => ?_
  replace q₅ := q₅.elim
  obtain ⟨y, rfl, q₅⟩ := q₅
  cases hv
  exact wpAny_holding (wpAny_truthy_bool (hP y σ₅ s₅ R₅ ((S₁₃.trans S₄).trans S₅) q₅))
theorem dO {e : Expr} {T : ET} (he : HE C sc k e T) (hi : ∀ env whole, isTrue e env whole = (do let v ← whole; standAt e.pos; holding [v] (truthy v))) : HB C sc k e (aJ T) := by
 refine ⟨?_⟩; intro env A s m σ Q P E en ao R F q hP
 refine wpAny_isTrue_value (he.run env A s m σ _ _ E en ao R F q fun v w σ' s' hv R' S' q' => ?_) (hi env _)
 replace q' := q'.elim
 obtain ⟨b, rfl, q'⟩ := q'
 cases hv
 exact wpAny_truthy_bool (hP b σ' s' R' S' q')
noncomputable def j6 (T : BT) : BT := fun m σ Q => T m σ fun b σ' => Q (!b) σ'
theorem fg {e : Expr} {pos : Pos} {T : BT} (he : HB C sc k e T) : HB C sc k (.UnaryOp .Not e pos) (j6 T) := by
 refine ⟨?_⟩; intro env A s m σ Q P E en ao R F q hP
 exact wpAny_isTrue_Not (he.run env A s m σ _ _ E en ao R F q fun b σ' s' R' S' q' => hP (!b) σ' s' R' S' q')
structure HBs (C : Cx) (sc : Scope) (k : Nat) (op : BoolOp) (es : List Expr) (T : BT) : Prop where
 run : ∀ (env : Env) (A : Around) (s : Shared) (m : aU) (σ : ag) (Q : Bool → ag → Prop) (P : Bool → Shared → Prop) (E : Value → Shared → Prop),
  EnvOk env sc → AOk C A k → RelG C σ s → FrameRel C env m σ s.heap → T m σ Q →
  (∀ b σ' s', RelG C σ' s' → Step no σ σ' s.heap s'.heap → Q b σ' → P b s') →
  wpAny (model C.prog C.w) A (allTrue op es env) P E s
noncomputable def tT : BT := fun _ σ Q => Q true σ
noncomputable def tF : BT := fun _ σ Q => Q false σ
noncomputable def lI (T U : BT) : BT := fun m σ Q => T m σ fun b σ' => if b then U m σ' Q else Q false σ'
noncomputable def iP (T U : BT) : BT := fun m σ Q => T m σ fun b σ' => if b then Q true σ' else U m σ' Q
theorem hY : HBs C sc k .And [] tT := ⟨fun _ _ s _ σ _ _ _ _ _ R _ q hP => wpAny_allTrue_And_nil (hP true σ s R Step.refl q)⟩
theorem cI : HBs C sc k .Or [] tF := ⟨fun _ _ s _ σ _ _ _ _ _ R _ q hP => wpAny_allTrue_Or_nil (hP false σ s R Step.refl q)⟩
theorem gz {e : Expr} {es : List Expr} {T U : BT} (he : HB C sc k e T) (hs : HBs C sc k .And es U) : HBs C sc k .And (e :: es) (lI T U) := by
 refine ⟨?_⟩; intro env A s m σ Q P E en ao R F q hP
 refine wpAny_allTrue_And_cons (he.run env A s m σ _ _ E en ao R F q fun b σ' s' R' S' q' => ?_)
 cases b with
 | false => simpa using hP false σ' s' R' S' (by simpa using q')
 | true => simp only [if_true] at q' ⊢; exact hs.run env A s' m σ' Q P E en ao R' (F.step R S') q' fun b σ₂ s₂ R₂ S₂ q₂ => hP b σ₂ s₂ R₂ (S'.trans S₂) q₂
theorem bT {e : Expr} {es : List Expr} {T U : BT} (he : HB C sc k e T) (hs : HBs C sc k .Or es U) : HBs C sc k .Or (e :: es) (iP T U) := by
 refine ⟨?_⟩; intro env A s m σ Q P E en ao R F q hP
 refine wpAny_allTrue_Or_cons (he.run env A s m σ _ _ E en ao R F q fun b σ' s' R' S' q' => ?_)
 cases b with
 | true => simpa using hP true σ' s' R' S' (by simpa using q')
 | false => simp only [Bool.false_eq_true, if_false] at q' ⊢; exact hs.run env A s' m σ' Q P E en ao R' (F.step R S') q' fun b σ₂ s₂ R₂ S₂ q₂ => hP b σ₂ s₂ R₂ (S'.trans S₂) q₂
theorem bU {op : BoolOp} {es : List Expr} {pos : Pos} {T : BT} (h : HBs C sc k op es T) : HB C sc k (.BoolOp op es pos) T := by
 refine ⟨?_⟩; intro env A s m σ Q P E en ao R F q hP
 exact wpAny_isTrue_BoolOp (h.run env A s m σ Q P E en ao R F q hP)
structure HVs (C : Cx) (sc : Scope) (k : Nat) (op : BoolOp) (es : List Expr) (T : ET) : Prop where
 run : ∀ (env : Env) (A : Around) (s : Shared) (m : aU) (σ : ag) (pos : Pos) (Q : V → ag → Prop) (P : Value → Shared → Prop) (E : Value → Shared → Prop),
  EnvOk env sc → AOk C A k → RelG C σ s → FrameRel C env m σ s.heap → T m σ Q → uX C σ s Q P → wpAny (model C.prog C.w) A (boolOp pos op (evalEach es env)) P E s
theorem iK {op : BoolOp} {e : Expr} {T : ET} (he : HE C sc k e T) : HVs C sc k op [e] T := by
 refine ⟨?_⟩; intro env A s m σ pos Q P E en ao R F q hP
 exact he.run env A s m σ Q P E en ao R F q hP
noncomputable def ql (T U : ET) : ET := fun m σ Q => T m σ fun v σ' => isB v fun b => if b then U m σ' Q else Q (.bool false) σ'
noncomputable def Au (T U : ET) : ET := fun m σ Q => T m σ fun v σ' => isB v fun b => if b then Q (.bool true) σ' else U m σ' Q
theorem iL {e f : Expr} {es : List Expr} {T U : ET} (he : HE C sc k e T) (hs : HVs C sc k .And (f :: es) U) : HVs C sc k .And (e :: f :: es) (ql T U) := by
 refine ⟨?_⟩; intro env A s m σ pos Q P E en ao R F q hP
 show wpAny _ A (do
  let v ← eval e env
  standAt pos
  let t ← holding [v] (truthy v)
  match BoolOp.And, t with
  | .And, false | .Or, true => pure v
  | _, _ => boolOp pos .And (evalEach (f :: es) env)) P E s
 refine wpAny_bind (he.run env A s m σ _ _ E en ao R F q fun v w σ' s' hv R' S' q' => wpAny_bind (wpAny_standAt (wpAny_bind (wpAny_holding ?_))))
 replace q' := q'.elim
 obtain ⟨b, rfl, q'⟩ := q'
 cases hv
 refine wpAny_truthy_bool ?_
 cases b with
 | false => exact wpAny_pure (hP _ _ σ' s' (.bool false) R' S' (by simpa using q'))
 | true => simp only [if_true] at q'; exact hs.run env A s' m σ' pos Q P E en ao R' (F.step R S') q' fun v w σ₂ s₂ hv R₂ S₂ q₂ => hP v w σ₂ s₂ hv R₂ (S'.trans S₂) q₂
theorem yh {e f : Expr} {es : List Expr} {T U : ET} (he : HE C sc k e T) (hs : HVs C sc k .Or (f :: es) U) : HVs C sc k .Or (e :: f :: es) (Au T U) := by
 refine ⟨?_⟩; intro env A s m σ pos Q P E en ao R F q hP
 show wpAny _ A (do
  let v ← eval e env
  standAt pos
  let t ← holding [v] (truthy v)
  match BoolOp.Or, t with
  | .And, false | .Or, true => pure v
  | _, _ => boolOp pos .Or (evalEach (f :: es) env)) P E s
 refine wpAny_bind (he.run env A s m σ _ _ E en ao R F q fun v w σ' s' hv R' S' q' => wpAny_bind (wpAny_standAt (wpAny_bind (wpAny_holding ?_))))
 replace q' := q'.elim
 obtain ⟨b, rfl, q'⟩ := q'
 cases hv
 refine wpAny_truthy_bool ?_
 cases b with
 | true => exact wpAny_pure (hP _ _ σ' s' (.bool true) R' S' (by simpa using q'))
 | false => simp only [Bool.false_eq_true, if_false] at q'; exact hs.run env A s' m σ' pos Q P E en ao R' (F.step R S') q' fun v w σ₂ s₂ hv R₂ S₂ q₂ => hP v w σ₂ s₂ hv R₂ (S'.trans S₂) q₂
theorem eO {op : BoolOp} {es : List Expr} {pos : Pos} {T : ET} (h : HVs C sc k op es T) : HE C sc k (.BoolOp op es pos) T := by
 refine ⟨?_⟩; intro env A s m σ Q P E en ao R F q hP
 exact h.run env A s m σ pos Q P E en ao R F q hP
theorem qz {op : O2} {value slice : Expr} {pos : Pos} {T U : ET} (hv : HE C sc k value T) (hi : HE C sc k slice U)
  (hop : hW C k (fun o i => getitemInPython o >>= fun b => subscripted slice b o i) op) : HE C sc k (.Subscript value slice pos) (ax op T U) := by
 refine ⟨?_⟩; intro env A s m σ Q P E en ao R F q hP
 show wpAny _ A (do
  let o ← eval value env
  let i ← holding [o] (eval slice env)
  standAt pos
  let r ← subscripted slice (← getitemInPython o) o i
  letTemporaryGo value o r
  pure r) P E s
 refine wpAny_bind (wpAny_mono (two (P := P) (E := E) hop hv hi en ao R F q hP) (fun o s₁ h₁ => wpAny_bind (wpAny_holding (wpAny_mono h₁ (fun i s₂ h₂ => wpAny_bind (wpAny_standAt ?_)) fun _ _ x => x))) fun _ _ x => x)
 have h₃ : wpAny (model C.prog C.w) A ((getitemInPython o >>= fun b => subscripted slice b o i) >>= fun r => letTemporaryGo value o r >>= fun _ => pure r) P E s₂ :=
  wpAny_bind (wpAny_mono h₂ (fun r s₃ hr => wpAny_bind (wpAny_letTemporaryGo (wpAny_pure hr))) fun _ _ x => x)
 rwa [bind_assoc] at h₃
end
end Mine
end
noncomputable section
namespace Mine
open PySem
noncomputable def f9 (i : Int) : Prop := i.natAbs < 2 ^ 64
theorem yg {i : Int} {n : Nat} (h : 0 < i) (h2 : i < n) : i.natAbs < n := by obtain ⟨m, rfl⟩ := Int.eq_ofNat_of_zero_le (Int.le_of_lt h); exact Int.ofNat_lt.mp h2
theorem gJ {i : Int} (h : f9 i) : Builtin.Int.intBits i ≤ 64 := by
 unfold Builtin.Int.intBits
 split
 ·decide
 ·rename_i hn
  have h0 : i.natAbs ≠ 0 := by
   intro e
   have : i = 0 := Int.natAbs_eq_zero.mp e
   simp [this] at hn
  have := (Nat.log2_lt h0).mpr h
  exact this
theorem gl {α : Type} [DecidableEq α] (a b : α) : (a == b) = decide (a = b) := by
 by_cases h : a = b
 ·subst h; simp
 ·simp [h]
section
variable {C : Cx} {k : Nat}
noncomputable def qT : O2
 | .int x, .int y, σ, Q => Q (.int (x - y)) σ
 | _, _, _, _ => False
theorem tD : hW C k (binaryOp .Sub) qT := by
 intro A s σ a b wa wb Q P E ao R va vb q hP
 cases a <;> first | exact q.elim | skip
 cases b <;> first | exact q.elim | skip
 cases va; cases vb
 exact _root_.PySem.P.sub_int (hP _ _ σ _ (.int _ _) (R.tok _) Step.refl q)
noncomputable def bP : O2
 | .int x, .int y, σ, Q => 0 < y ∧ Q (.int (x % y)) σ
 | _, _, _, _ => False
theorem bK : hW C k (binaryOp .Mod) bP := by
 intro A s σ a b wa wb Q P E ao R va vb q hP
 cases a <;> first | exact q.elim | skip
 cases b <;> first | exact q.elim | skip
 cases va; cases vb
 rename_i x t y u
 obtain ⟨hy, q⟩ := q
 refine PyProof.Rows.mod_int' (by exact Int.ne_of_gt hy) ?_
 rw [Int.fmod_eq_emod_of_nonneg _ (by exact Int.le_of_lt hy)]
 exact hP _ _ σ _ (.int _ _) (R.tok _) Step.refl q
noncomputable def gH : O2
 | .int x, .int y, σ, Q => (0 < y ∧ y < 1073741824) ∧ Q (.int (x / y)) σ
 | _, _, _, _ => False
theorem fL : hW C k (binaryOp .FloorDiv) gH := by
 intro A s σ a b wa wb Q P E ao R va vb q hP
 cases a <;> first | exact q.elim | skip
 cases b <;> first | exact q.elim | skip
 cases va; cases vb
 obtain ⟨hy, q⟩ := q
 refine PyProof.Rows.floordiv_int (by exact Int.ne_of_gt hy.1) ?_ (.inl (PyProof.noPylong_small (yg (n := 1073741824) hy.1 hy.2)))
 rw [Int.fdiv_eq_ediv_of_nonneg _ (by exact Int.le_of_lt hy.1)]
 exact hP _ _ σ _ (.int _ _) (R.tok _) Step.refl q
noncomputable def gG : O2
 | .int x, .int y, σ, Q => (f9 x ∨ f9 y) ∧ Q (.int (x * y)) σ
 | _, _, _, _ => False
theorem iY : hW C k (binaryOp .Mult) gG := by
 intro A s σ a b wa wb Q P E ao R va vb q hP
 cases a <;> first | exact q.elim | skip
 cases b <;> first | exact q.elim | skip
 cases va; cases vb
 refine _root_.PySem.P.mul_int (hP _ _ σ _ (.int _ _) (R.tok _) Step.refl q.2) (q.1.elim (fun h => .of_left (gJ h)) fun h => ?_)
 exact .of_right (gJ h)
noncomputable def tw : O2
 | .int x, .int y, σ, Q => Q (.bool (decide (x < y))) σ
 | _, _, _, _ => False
noncomputable def tz : O2
 | .int x, .int y, σ, Q => Q (.bool (decide (x ≤ y))) σ
 | _, _, _, _ => False
noncomputable def pT : O2
 | .int x, .int y, σ, Q => Q (.bool (decide (x > y))) σ
 | _, _, _, _ => False
theorem wG : hW C k (compareOp .Lt) tw := by
 intro A s σ a b wa wb Q P E ao R va vb q hP
 cases a <;> first | exact q.elim | skip
 cases b <;> first | exact q.elim | skip
 cases va; cases vb
 exact _root_.PySem.P.lt_int (hP _ _ σ _ (.bool _) R Step.refl q)
theorem tH : hW C k (compareOp .LtE) tz := by
 intro A s σ a b wa wb Q P E ao R va vb q hP
 cases a <;> first | exact q.elim | skip
 cases b <;> first | exact q.elim | skip
 cases va; cases vb
 exact _root_.PySem.P.le_int (hP _ _ σ _ (.bool _) R Step.refl q)
theorem oh : hW C k (compareOp .Gt) pT := by
 intro A s σ a b wa wb Q P E ao R va vb q hP
 cases a <;> first | exact q.elim | skip
 cases b <;> first | exact q.elim | skip
 cases va; cases vb
 exact _root_.PySem.P.gt_int (hP _ _ σ _ (.bool _) R Step.refl q)
noncomputable def ie : O1
 | .int x, σ, Q => Q (.int (-x)) σ
 | _, _, _ => False
theorem kA : AT C k (unaryOp .USub) ie := by
 intro A s σ a wa Q P E ao R va q hP
 cases a <;> first | exact q.elim | skip
 cases va
 exact _root_.PySem.P.neg_int (hP _ _ σ _ (.int _ _) (R.tok _) Step.refl q)
noncomputable def veq0 : V → V → Option Bool
 | .none, .none => some true
 | .none, .str _ => some false
 | .str _, .none => some false
 | .bool a, .bool b => some (a == b)
 | .int a, .int b => some (decide (a = b))
 | .str a, .str b => some (decide (a = b))
 | _, _ => none
theorem veq0.ind {a b : V} {r : Bool} (h : veq0 a b = some r) {P : V → V → Bool → Prop} (c1 : P .none .none true) (c2 : ∀ y, P .none (.str y) false) (c3 : ∀ x, P (.str x) .none false)
  (c4 : ∀ x y, P (.bool x) (.bool y) (x == y)) (c5 : ∀ x y, P (.int x) (.int y) (decide (x = y))) (c6 : ∀ x y, P (.str x) (.str y) (decide (x = y))) : P a b r := by
 have w : ∀ {X : Prop}, (Option.none : Option Bool) = some r → X := fun e => by cases e
 have z : ∀ {c : Bool}, some c = some r → P a b c → P a b r := fun e => Option.some.inj e ▸ id
 cases a <;> first | exact w h | skip
 all_goals (cases b <;> first | exact w h | exact z h c1 | exact z h (c2 _) | exact z h (c3 _) | exact z h (c4 _ _) | exact z h (c5 _ _) | exact z h (c6 _ _))
noncomputable def br : O2 := fun a b σ Q => atK (veq0 a b) fun r => Q (.bool r) σ
noncomputable def cc : O2 := fun a b σ Q => atK (veq0 a b) fun r => Q (.bool (!r)) σ
theorem bu : hW C k (compareOp .Eq) br := by
 intro A s σ a b wa wb Q P E ao R va vb q₀ hP
 obtain ⟨r, hr, q⟩ := q₀.elim
 clear q₀
 revert va vb q
 refine veq0.ind hr (P := fun a b r => VRel C.aS s.heap a wa → VRel C.aS s.heap b wb → Q (.bool r) σ → wpAny (model C.prog C.w) A (compareOp .Eq wa wb) P E s) ?_ ?_ ?_ ?_ ?_ ?_ <;> intros <;> rename_i va vb q <;> cases va <;> cases vb
 ·exact PySem.EqNone.eq_none_none (hP _ _ σ _ (.bool _) R Step.refl q)
 ·exact PySem.EqNone.eq_none_str (hP _ _ σ _ (.bool _) R Step.refl q)
 ·exact PySem.EqNone.eq_str_none (hP _ _ σ _ (.bool _) R Step.refl q)
 ·exact PyProof.Rows.eq_bool (hP _ _ σ _ (.bool _) R Step.refl q)
 ·exact _root_.PySem.P.eq_int (by rw [gl]; exact hP _ _ σ _ (.bool _) R Step.refl q)
 ·exact PyProof.Rows.eq_str (hP _ _ σ _ (.bool _) R Step.refl (by rw [gl]; exact q))
theorem dI : hW C k (compareOp .NotEq) cc := by
 intro A s σ a b wa wb Q P E ao R va vb q₀ hP
 obtain ⟨r, hr, q⟩ := q₀.elim
 clear q₀
 revert va vb q
 refine veq0.ind hr (P := fun a b r => VRel C.aS s.heap a wa → VRel C.aS s.heap b wb → Q (.bool !r) σ → wpAny (model C.prog C.w) A (compareOp .NotEq wa wb) P E s) ?_ ?_ ?_ ?_ ?_ ?_ <;> intros <;> rename_i va vb q <;> cases va <;> cases vb
 ·exact PySem.EqNone.ne_none_none (hP _ _ σ _ (.bool _) R Step.refl q)
 ·exact PySem.EqNone.ne_none_str (hP _ _ σ _ (.bool _) R Step.refl q)
 ·exact PySem.EqNone.ne_str_none (hP _ _ σ _ (.bool _) R Step.refl q)
 ·exact PyProof.Rows.ne_bool (hP _ _ σ _ (.bool _) R Step.refl q)
 ·exact _root_.PySem.P.ne_int (hP _ _ σ _ (.bool _) R Step.refl (by rw [bne, gl]; exact q))
 ·exact PyProof.Rows.ne_str (hP _ _ σ _ (.bool _) R Step.refl (by rw [bne, gl]; exact q))
noncomputable def AH : O2
 | .str y, .str x, σ, Q => Q (.bool (Txt.contains x y)) σ
 | _, _, _, _ => False
noncomputable def ku : O2
 | .str y, .str x, σ, Q => Q (.bool (!Txt.contains x y)) σ
 | _, _, _, _ => False
theorem rV : hW C k (compareOp .NotIn) ku := by
 intro A s σ a b wa wb Q P E ao R va vb q hP
 cases a <;> first | exact q.elim | skip
 cases b <;> first | exact q.elim | skip
 cases va; cases vb
 exact SB.notContains (hP _ _ σ _ (.bool _) R Step.refl q)
end
end Mine
end
noncomputable section
set_option tactic.hygienic false
namespace Mine
open PySem
theorem cn {a b : String} (h : Str.ofString a = Str.ofString b) : a = b := by
 rw [Str.ofString_eq_toList, Str.ofString_eq_toList] at h
 have h1 : (a.toList.map Char.toNat) = (b.toList.map Char.toNat) := by
  have := congrArg (fun x : Str => x.cps.toList) h
  simpa using this
 have h2 : a.toList = b.toList := by
  refine (List.map_inj_right ?_).mp h1
  intro x y e
  exact Char.toNat_inj.mp e
 exact String.toList_inj.mp h2
inductive Fl where
 | next | brk | cont
 | ret (v : V)
abbrev ST := aU → ag → (Fl → aU → ag → Prop) → Prop
inductive FlRel (aS : Addr) (h : Heap) : Fl → Flow → Prop
 | next : FlRel aS h .next .next
 | brk : FlRel aS h .brk .brk
 | cont : FlRel aS h .cont .cont
 | ret {v : V} {w : Value} : VRel aS h v w → FlRel aS h (.ret v) (.ret w)
abbrev sM (C : Cx) (env : Env) (σ : ag) (s : Shared) (Q : Fl → aU → ag → Prop) (P : Flow → Shared → Prop) : Prop :=
 ∀ f g m' σ' s', FlRel C.aS s'.heap f g → RelG C σ' s' → FrameRel C env m' σ' s'.heap → Step (jd env) σ σ' s.heap s'.heap → Q f m' σ' → P g s'
structure HS (C : Cx) (sc : Scope) (k : Nat) (b : List Stmt) (T : ST) : Prop where
 run : ∀ (env : Env) (A : Around) (s : Shared) (m : aU) (σ : ag) (Q : Fl → aU → ag → Prop) (P : Flow → Shared → Prop) (E : Value → Shared → Prop),
  EnvOk env sc → AOk C A k → RelG C σ s → FrameRel C env m σ s.heap → T m σ Q → sM C env σ s Q P → wpAny (model C.prog C.w) A (execs b env) P E s
structure HS1 (C : Cx) (sc : Scope) (k : Nat) (b : Stmt) (T : ST) : Prop where
 run : ∀ (env : Env) (A : Around) (s : Shared) (m : aU) (σ : ag) (Q : Fl → aU → ag → Prop) (P : Flow → Shared → Prop) (E : Value → Shared → Prop),
  EnvOk env sc → AOk C A k → RelG C σ s → FrameRel C env m σ s.heap → T m σ Q → sM C env σ s Q P → wpAny (model C.prog C.w) A (exec b env) P E s
section
variable {C : Cx} {sc : Scope} {k : Nat}
theorem FrameRel.ownT {env : Env} {m : aU} {σ : ag} {h : Heap} (F : FrameRel C env m σ h) : ∀ b o, jd env b → h.get? b = some o → ¬ jN o := by
 rintro b o (rfl | ⟨n, hn⟩) ho ⟨_, it, n', hd, _⟩
 ·obtain ⟨mm, ⟨o', es, ep, ho', hd', _⟩, _⟩ := F.ns
  rw [ho] at ho'; cases ho'; rw [hd] at hd'; cases hd'
 ·obtain ⟨v, o', ho', hd'⟩ := F.cells n b hn
  rw [ho] at ho'; cases ho'; rw [hd] at hd'; cases hd'
theorem Step.tupsO {env : Env} {m : aU} {σ σ' : ag} {s : Shared} {h' : Heap} (F : FrameRel C env m σ s.heap) (R : RelG C σ s) (S : Step (jd env) σ σ' s.heap h') : a0 s.heap h' := S.tups R F.ownT
theorem Step.own {env : Env} {σ σ' : ag} {h h' : Heap} (S : Step no σ σ' h h') : Step (jd env) σ σ' h h' := S.mono fun _ _ _ z => z.elim
noncomputable def ar : ST := fun m σ Q => Q .next m σ
noncomputable def aq (T U : ST) : ST := fun m σ Q => T m σ fun f m₁ σ₁ => match f with
 | .next => U m₁ σ₁ Q
 | f => Q f m₁ σ₁
theorem aj : HS C sc k [] ar := ⟨fun _ _ s m σ _ _ _ _ _ R F q hP => wpAny_execs_nil (hP .next .next m σ s .next R F Step.refl q)⟩
theorem ah {st : Stmt} {b : List Stmt} {T U : ST} (h1 : HS1 C sc k st T) (h2 : HS C sc k b U) : HS C sc k (st :: b) (aq T U) := by
 refine ⟨?_⟩; intro env A s m σ Q P E en ao R F q hP
 refine wpAny_execs_cons (h1.run env A s m σ _ _ E en ao R F q fun f g m₁ σ₁ s₁ hf R₁ F₁ S₁ q₁ => ?_)
 cases hf with
 | next => exact h2.run env A s₁ m₁ σ₁ Q P E en ao R₁ F₁ q₁ fun f g m₂ σ₂ s₂ hf R₂ F₂ S₂ q₂ => hP f g m₂ σ₂ s₂ hf R₂ F₂ (S₁.trans S₂) q₂
 | brk => exact hP _ _ m₁ σ₁ s₁ .brk R₁ F₁ S₁ q₁
 | cont => exact hP _ _ m₁ σ₁ s₁ .cont R₁ F₁ S₁ q₁
 | ret hv => exact hP _ _ m₁ σ₁ s₁ (.ret hv) R₁ F₁ S₁ q₁
theorem dS {env : Env} {A : Around} {s : Shared} {m : aU} {σ : ag} {x : String} {v : V} {w : Value} {P : Unit → Shared → Prop} {E : Value → Shared → Prop} (en : EnvOk env sc) (R : RelG C σ s) (F : FrameRel C env m σ s.heap)
  (hl : sc.names.lookup (Str.ofString x) = some .local) (hv : VRel C.aS s.heap v w)
  (h : ∀ s', RelG C σ s' → FrameRel C env (put m x v) σ s'.heap → Step (fun b => b = env.locals) σ σ s.heap s'.heap → P () s') : wpAny (model C.prog C.w) A (storeName env (Str.ofString x) w) P E s := by
 obtain ⟨mm, hn, hm⟩ := F.ns
 have kl := en.of hl
 refine wpAny_storeName_local kl hn (fun h' hn' hs' => ?_) (by rw [en.k]; rfl)
 obtain ⟨oL, esL, epL, hoL, hdL, _⟩ := id hn
 have kt : a0 s.heap h' := fun b o e ht => (hs'.2 b (by rintro rfl; rw [hoL] at e; cases e; obtain ⟨_, _, _, hd, _⟩ := ht; rw [hdL] at hd; cases hd)).trans e
 have kc : ∀ c v, s.heap.IsCell c v → h'.IsCell c v := fun c v ⟨o, ho, hd⟩ => ⟨o, (hs'.2 c (by rintro rfl; rw [hoL] at ho; cases ho; rw [hdL] at hd; cases hd)).trans ho, hd⟩
 refine h _ ?_ ?_ ?_
 ·refine ⟨let ⟨_, _, d, e⟩ := R.rest; ⟨h', s.toks + 1, d, by rw [e]⟩, fun b o e => ?_, fun a o e => ?_, R.apart⟩
  ·exact (hs'.2 b (by rintro rfl; rw [F.baseL] at e; cases e)).trans (R.base b o e)
  ·exact (R.view a o e).keep kt fun o' e' => (hs'.2 a (by rintro rfl; rw [F.sepL] at e; cases e)).trans e'
 ·refine ⟨⟨_, hn', fun y u e ky => ?_⟩, fun y u e => ?_, fun n c e => ?_, F.sepL, F.baseL, F.baseC, F.dist, F.has⟩
  ·by_cases hy : y = x
   ·subst hy; rw [kj] at e; cases e; exact ⟨w, by simp, hv.keep kt⟩
   ·rw [fJ hy] at e
    obtain ⟨w', h1, h2⟩ := hm y u e ky
    exact ⟨w', by simp [show ¬ Str.ofString y = Str.ofString x from fun z => hy (cn z), h1], h2.keep kt⟩
  ·by_cases hy : y = x
   ·subst hy; exact .inl kl
   ·rw [fJ hy] at e
    rcases F.cel y u e with z | ⟨z, c, w', h1, h2, h3⟩
    ·exact .inl z
    ·exact .inr ⟨z, c, w', h1, kc _ _ h2, h3.keep kt⟩
  ·obtain ⟨v, hv⟩ := F.cells n c e; exact ⟨v, kc _ _ hv⟩
 ·exact .of (fun b o e n q => (hs'.2 b q).trans e) (Nat.le_of_eq hs'.1.symm) fun _ a b => absurd a b
theorem pF {env : Env} {A : Around} {s : Shared} {m : aU} {σ : ag} {x : String} {v : V} {w : Value} {P : Unit → Shared → Prop} {E : Value → Shared → Prop} (en : EnvOk env sc) (R : RelG C σ s) (F : FrameRel C env m σ s.heap)
  (hl : sc.names.lookup (Str.ofString x) = some .cell) (hv : VRel C.aS s.heap v w)
  (h : ∀ s', RelG C σ s' → FrameRel C env (put m x v) σ s'.heap → Step (jd env) σ σ s.heap s'.heap → P () s') : wpAny (model C.prog C.w) A (storeName env (Str.ofString x) w) P E s := by
 have kl := en.of hl
 obtain ⟨c₀, hc₀⟩ := F.has _ (.inl kl)
 obtain ⟨v₀, hv₀⟩ := F.cells _ _ hc₀
 refine wpAny_storeName_cell en.k kl hc₀ hv₀ fun h' hc' hs' => ?_
 obtain ⟨oc, hoc, hdc⟩ := id hv₀
 have kt : a0 s.heap h' := fun b o e ht => (hs'.2 b (by rintro rfl; rw [hoc] at e; cases e; obtain ⟨_, _, _, hd, _⟩ := ht; rw [hdc] at hd; cases hd)).trans e
 have kc : ∀ c v, c ≠ c₀ → s.heap.IsCell c v → h'.IsCell c v := fun c v hne ⟨o, ho, hd⟩ => ⟨o, (hs'.2 c hne).trans ho, hd⟩
 obtain ⟨mm, hn, hm⟩ := F.ns
 have hL : env.locals ≠ c₀ := by
  rintro e
  obtain ⟨oL, _, _, hoL, hdL, _⟩ := hn
  rw [e, hoc] at hoL; cases hoL; rw [hdc] at hdL; cases hdL
 have hσ : σ c₀ = Option.none := by
  cases z : σ c₀ with
  | none => rfl
  | some o' => obtain ⟨ob, h1, _, h3⟩ := (R.view c₀ o' z).shape; rw [hoc] at h1; cases h1; exact absurd hdc (h3 _)
 refine h _ ?_ ?_ ?_
 ·refine ⟨let ⟨_, _, d, e⟩ := R.rest; ⟨h', s.toks, d, by rw [e]⟩, fun b o e => ?_, fun a o e => ?_, R.apart⟩
  ·exact (hs'.2 b (by rintro rfl; rw [F.baseC _ _ hc₀] at e; cases e)).trans (R.base b o e)
  ·exact (R.view a o e).keep kt fun o' e' => (hs'.2 a (by rintro rfl; rw [hσ] at e; cases e)).trans e'
 ·refine ⟨⟨mm, hn.sameBut hs' hL, fun y u e ky => ?_⟩, fun y u e => ?_, fun n c e => ?_, F.sepL, F.baseL, F.baseC, F.dist, F.has⟩
  ·have hy : y ≠ x := by rintro rfl; rw [kl] at ky; cases ky
   rw [fJ hy] at e
   obtain ⟨w', h1, h2⟩ := hm y u e ky
   exact ⟨w', h1, h2.keep kt⟩
  ·by_cases hy : y = x
   ·subst hy; rw [kj] at e; cases e; exact .inr ⟨.inl kl, c₀, w, hc₀, hc', hv.keep kt⟩
   ·rw [fJ hy] at e
    rcases F.cel y u e with z | ⟨z, c, w', h1, h2, h3⟩
    ·exact .inl z
    ·exact .inr ⟨z, c, w', h1, kc _ _ (by rintro rfl; exact hy (cn (name_of_addr F.dist (mem_of_lookup h1) (mem_of_lookup hc₀)))) h2, h3.keep kt⟩
  ·by_cases hc : c = c₀
   ·subst hc; exact ⟨_, hc'⟩
   ·obtain ⟨v, hv⟩ := F.cells n c e; exact ⟨v, kc _ _ hc hv⟩
 ·exact .of (fun b o e n q => (hs'.2 b fun z => q (.inr ⟨_, z ▸ hc₀⟩)).trans e) (Nat.le_of_eq hs'.1.symm) fun _ a b => absurd a b
noncomputable def AC (sc : Scope) (x : String) : Prop := sc.names.lookup (Str.ofString x) = some .local ∨ sc.names.lookup (Str.ofString x) = some .cell
theorem wz {env : Env} {A : Around} {s : Shared} {m : aU} {σ : ag} {x : String} {v : V} {w : Value} {P : Unit → Shared → Prop} {E : Value → Shared → Prop} (en : EnvOk env sc) (R : RelG C σ s) (F : FrameRel C env m σ s.heap)
  (hl : AC sc x) (hv : VRel C.aS s.heap v w)
  (h : ∀ s', RelG C σ s' → FrameRel C env (put m x v) σ s'.heap → Step (jd env) σ σ s.heap s'.heap → P () s') : wpAny (model C.prog C.w) A (storeName env (Str.ofString x) w) P E s :=
 hl.elim (fun z => dS en R F z hv fun s' R' F' S' => h s' R' F' (S'.mono fun _ _ _ q => .inl q)) fun z => pF en R F z hv h
noncomputable def bj (x : String) (T : ET) : ST := fun m σ Q => T m σ fun v σ' => Q .next (put m x v) σ'
theorem aF {x : String} {p pos : Pos} {value : Expr} {T : ET} (hx : AC sc x) (he : HE C sc k value T) (hs : ∀ env, EnvOk env sc → swapsWith value (some (.Name (Str.ofString x) p)) pos.line env = pure false) : HS1 C sc k (.Assign [.Name (Str.ofString x) p] value pos) (bj x T) := by
 refine ⟨?_⟩; intro env A s m σ Q P E en ao R F q hP
 refine wpAny_Assign_Name (he.run env A s m σ _ _ E en ao R F q fun v w σ₁ s₁ hv R₁ S₁ q₁ => ?_) (hs env en)
 exact wz en R₁ (F.step R S₁) hx hv fun s₂ R₂ F₂ S₂ => hP .next .next _ σ₁ s₂ .next R₂ F₂ ((S₁.own).trans S₂) q₁
noncomputable def bO (T : ET) : ST := fun m σ Q => T m σ fun _ σ' => Q .next m σ'
theorem ba {pos : Pos} {value : Expr} {T : ET} (he : HE C sc k value T) (hs : ∀ env, EnvOk env sc → swapsWith value Option.none pos.line env = pure false) : HS1 C sc k (.Expr value pos) (bO T) := by
 refine ⟨?_⟩; intro env A s m σ Q P E en ao R F q hP
 have hi : interactive env = false := by unfold interactive; rw [en.k]; rfl
 rw [exec_Expr env value pos hi (hs env en)]
 refine wpAny_bind (wpAny_standAt (wpAny_bind (he.run env A s m σ _ _ E en ao R F q fun v w σ₁ s₁ hv R₁ S₁ q₁ => ?_)))
 exact wpAny_dropValue (hP .next .next m σ₁ s₁ .next R₁ (F.step R S₁) S₁.own q₁)
noncomputable def dP (B : BT) (T U : ST) : ST := fun m σ Q => B m σ fun b σ' => if b then T m σ' Q else U m σ' Q
theorem aQ {pos : Pos} {test : Expr} {a b : List Stmt} {B : BT} {T U : ST} (hb : HB C sc k test B) (h1 : HS C sc k a T) (h2 : HS C sc k b U) : HS1 C sc k (.If test a b pos) (dP B T U) := by
 refine ⟨?_⟩; intro env A s m σ Q P E en ao R F q hP
 refine wpAny_If (hb.run env A s m σ _ _ E en ao R F q fun b σ₁ s₁ R₁ S₁ q₁ => ?_)
 cases b with
 | true => simp only [if_true] at q₁ ⊢; exact h1.run env A s₁ m σ₁ Q P E en ao R₁ (F.step R S₁) q₁ fun f g m₂ σ₂ s₂ hf R₂ F₂ S₂ q₂ => hP f g m₂ σ₂ s₂ hf R₂ F₂ (S₁.own.trans S₂) q₂
 | false => simp only [Bool.false_eq_true, if_false] at q₁ ⊢; exact h2.run env A s₁ m σ₁ Q P E en ao R₁ (F.step R S₁) q₁ fun f g m₂ σ₂ s₂ hf R₂ F₂ S₂ q₂ => hP f g m₂ σ₂ s₂ hf R₂ F₂ (S₁.own.trans S₂) q₂
noncomputable def bo (T : ET) : ST := fun m σ Q => T m σ fun v σ' => Q (.ret v) m σ'
theorem aH {pos : Pos} {value : Expr} {T : ET} (he : HE C sc k value T) : HS1 C sc k (.Return (some value) pos) (bo T) := by
 refine ⟨?_⟩; intro env A s m σ Q P E en ao R F q hP
 exact wpAny_Return_some (he.run env A s m σ _ _ E en ao R F q fun v w σ₁ s₁ hv R₁ S₁ q₁ => hP (.ret v) (.ret w) m σ₁ s₁ (.ret hv) R₁ (F.step R S₁) S₁.own q₁)
noncomputable def qQ : ST := fun m σ Q => Q .cont m σ
theorem uQ {pos : Pos} : HS1 C sc k (.Continue pos) qQ := by
 refine ⟨?_⟩; intro env A s m σ Q P E en ao R F q hP
 exact wpAny_Continue (hP .cont .cont m σ s .cont R F Step.refl q)
end
end Mine
end
noncomputable section
set_option tactic.hygienic false
namespace Mine
open PySem
abbrev bR := List V → ag → (V → ag → Prop) → Prop
noncomputable def FnSound (C : Cx) (j : Nat) (f : Addr) (spec : bR) : Prop :=
 ∀ (A : Around) (s : Shared) (σ : ag) (vs : List V) (ws : List Value) (Q : V → ag → Prop) (P : Value → Shared → Prop) (E : Value → Shared → Prop),
  AOk C A (j + 1) → RelG C σ s → VRels C.aS s.heap vs ws → spec vs σ Q → uX C σ s Q P → codeAny (model C.prog C.w) A (.call (.ref f) ⟨ws, []⟩) (fun r s' => match r with | .ok (.ret v) => P v s' | .ok _ => False | .error e => E e s') s
noncomputable def aN : aU := fun _ => Option.none
noncomputable def aG : List String → List V → aU → aU
 | x :: xs, v :: vs, m => aG xs vs (put m x v)
 | _, _, m => m
theorem b9 {x : Str} : ∀ (names : List (Str × NameKind)) (n : Nat) (acc : List (Str × Addr)), (names.lookup x = some .cell ∨ ∃ c, acc.lookup x = some c) → ∃ c, (cellsFrom n names acc).lookup x = some c
 | [], _, _, h => h.elim (fun e => by cases e) id
 | (y, q) :: r, n, acc, h => by
  unfold cellsFrom
  by_cases hq : q = .cell
  ·rw [if_pos (by simp [hq])]
   refine b9 r _ _ ?_
   by_cases hy : x = y
   ·exact .inr ⟨n, by simp [hy]⟩
   ·have hb : (x == y) = false := by simp [hy]
    refine h.imp (fun e => ?_) fun ⟨c, e⟩ => ⟨c, ?_⟩
    ·rw [List.lookup_cons, hb] at e; exact e
    ·rw [List.lookup_cons, hb]; exact e
  ·rw [if_neg (by simpa using hq)]
   refine b9 r _ _ ?_
   by_cases hy : x = y
   ·refine .inr (h.elim (fun e => ?_) id)
    rw [List.lookup_cons, show (x == y) = true by simp [hy]] at e
    exact absurd (Option.some.inj e) hq
   ·have hb : (x == y) = false := by simp [hy]
    refine h.imp (fun e => ?_) id
    rw [List.lookup_cons, hb] at e; exact e
section
variable {C : Cx}
theorem hJ {h : Heap} (kindOf : Str → Option NameKind) : ∀ (xs : List String) (vs : List V) (ws : List Value) (m : aU) (mL mC : Str → Option Value),
  (∀ x ∈ xs, kindOf (Str.ofString x) = some .local ∨ kindOf (Str.ofString x) = some .cell) → VRels C.aS h vs ws →
  (∀ x v, m x = some v → (kindOf (Str.ofString x) = some .local ∧ ∃ w, mL (Str.ofString x) = some w ∧ VRel C.aS h v w) ∨ (kindOf (Str.ofString x) = some .cell ∧ ∃ w, mC (Str.ofString x) = some w ∧ VRel C.aS h v w)) →
  ∀ x v, aG xs vs m x = some v → (kindOf (Str.ofString x) = some .local ∧ ∃ w, bindL kindOf ((xs.map Str.ofString).zip ws) mL (Str.ofString x) = some w ∧ VRel C.aS h v w) ∨
   (kindOf (Str.ofString x) = some .cell ∧ ∃ w, bindC kindOf ((xs.map Str.ofString).zip ws) mC (Str.ofString x) = some w ∧ VRel C.aS h v w)
 | [], _, _, _, _, _, _, _, hm => by simpa [aG, bindL, bindC] using hm
 | x :: xs, [], _, _, _, _, _, .nil, hm => by simpa [aG, bindL, bindC] using hm
 | x :: xs, v :: vs, w :: ws, m, mL, mC, hk, .cons hv hvs, hm => by
  simp only [aG, List.map_cons, List.zip_cons_cons, bindL, bindC]
  refine hJ kindOf xs vs ws _ _ _ (fun y hy => hk y (.tail _ hy)) hvs fun y u e => ?_
  by_cases hy : y = x
  ·subst hy
   rw [kj] at e; cases e
   rcases hk y (.head _) with z | z
   ·exact .inl ⟨z, w, by simp [z], hv⟩
   ·exact .inr ⟨z, w, by simp [z], hv⟩
  ·rw [fJ hy] at e
   have hne : ¬ Str.ofString y = Str.ofString x := fun z => hy (cn z)
   rcases hm y u e with ⟨z, w', h1, h2⟩ | ⟨z, w', h1, h2⟩
   ·refine .inl ⟨z, w', ?_, h2⟩
    split <;> simp [hne, h1]
   ·refine .inr ⟨z, w', ?_, h2⟩
    split <;> simp [hne, h1]
theorem FnSound.mk (O : C.Ok) {f : Addr} {o : Obj} {fd : FuncData} {body : List Stmt} {xs : List String} {sc : Scope} {j : Nat} {spec : bR} {T : ST}
  (ho : C.hB.get? f = some o) (hd : o.data = .func fd) (hcd : C.hB.CodeRec fd.code fd.qualname) (hb : fd.body = .stmts body) (hsc : fd.scope = sc) (hcl : fd.closure = []) (hg : fd.globals = mainGlobals) (hbi : fd.builtins = builtinsNs)
  (hk : sc.kind = .function) (hfr : ∀ p ∈ sc.names, p.2 ≠ .free) (hco : sc.isCoroutine = false) (hgen : sc.isGenerator = false)
  (hbind : ∀ ws : List Value, ws.length = xs.length → bindArgs fd ⟨ws, []⟩ = pure ((xs.map Str.ofString).zip ws))
  (hloc : ∀ x ∈ xs, sc.names.lookup (Str.ofString x) = some .local ∨ sc.names.lookup (Str.ofString x) = some .cell)
  (hT : HS C sc j body T)
  (hspec : ∀ vs σ Q, spec vs σ Q → vs.length = xs.length ∧ T (aG xs vs aN) σ fun f _ σ' => match f with | .ret v => Q v σ' | .next => Q .none σ' | _ => False) : FnSound C j f spec := by
 intro A s σ vs ws Q P E ao R hvs hs hP
 subst hsc
 obtain ⟨hlen, q⟩ := hspec vs σ Q hs
 have hlw : ws.length = xs.length := by rw [← hvs.length]; exact hlen
 refine (codeAny_call_cells (fd := fd) (body := body) (binds := (xs.map Str.ofString).zip ws) (Nat.lt_of_le_of_lt (Nat.le_trans (Nat.le_add_right _ _) (Nat.le_add_right _ _)) ao.depth) (R.base _ _ ho) hd (O.nolimit.keeps R.base) (hcd.keeps R.base) hb (hbind ws hlw) hcl ?_ ?_ hco hgen hk)
 ·intro x hx
  have : x.1 ∈ xs.map Str.ofString := (List.of_mem_zip (a := x.1) (b := x.2) hx).1
  obtain ⟨y, hy, e⟩ := List.mem_map.mp this
  rw [← e]
  refine (hloc y hy).imp id fun z => ⟨z, ?_⟩
  obtain ⟨c, hc⟩ := b9 (x := Str.ofString y) fd.scope.names (s.heap.objs.size + 1) [] (.inl z)
  rw [hc]; rfl
 ·intro s₁ x
  generalize henv : callEnvC fd s.heap.objs.size f = env at x ⊢
  have eS : env.scope = fd.scope := by rw [← henv]; rfl
  have eL : env.locals = s.heap.objs.size := by rw [← henv]; rfl
  have eC : env.cells = cellsFrom (s.heap.objs.size + 1) fd.scope.names [] := by rw [← henv]; rfl
  have en : EnvOk env fd.scope := ⟨eS, hk, by rw [← henv]; exact hg, by rw [← henv]; exact hbi⟩
  obtain ⟨h₁, tk₁, e₁⟩ := x.toInCall.same
  have keep := x.toInCall.keep
  have R₁ : RelG C σ s₁ := by
   rw [e₁]
   exact R.grow (fun b o e => by have := keep b o e; rw [e₁] at this; exact this)
  have hz : s.heap.objs.size ≤ s₁.heap.objs.size := Nat.le_of_lt (by have := x.toInCall.ns.lt; rw [eL] at this; exact this)
  have kt : a0 s.heap s₁.heap := fun b o e _ => keep b o e
  have vars := hJ (C := C) (h := s₁.heap) env.kindOf xs vs ws aN (fun _ => Option.none) (fun _ => Option.none)
   (fun y hy => by unfold Env.kindOf; rw [eS]; exact hloc y hy) (hvs.keep kt) (fun _ _ e => by cases e)
  have lookupC : ∀ n, env.kindOf n = some .cell → ∃ c, env.cells.lookup n = some c := fun n hn => by
   rw [eC]; exact b9 _ _ _ (.inl (by unfold Env.kindOf at hn; rw [eS] at hn; exact hn))
  have lookupF : ∀ n, env.kindOf n = some .cell ∨ env.kindOf n = some .free → ∃ c, env.cells.lookup n = some c := fun n hn => hn.elim (lookupC n) fun z => by
   unfold Env.kindOf at z; rw [eS] at z; exact absurd rfl (hfr _ (mem_of_lookup z))
  have fresh : ∀ c, s.heap.objs.size ≤ c → C.hB.get? c = Option.none := fun c hc => R.baseNone (aB hc)
  have F₁ : FrameRel C env (aG xs vs aN) σ s₁.heap := by
   refine ⟨⟨_, x.toInCall.ns, fun y v e ky => ?_⟩, fun y v e => ?_, fun n c hc => ?_, R.freshNone (aB (Nat.le_of_eq eL.symm)), fresh _ (Nat.le_of_eq eL.symm), fun n c hc => ?_, x.apart, lookupF⟩
   ·rcases vars y v e with ⟨_, w, h1, h2⟩ | ⟨z, _⟩
    ·exact ⟨w, h1, h2⟩
    ·rw [z] at ky; cases ky
   ·rcases vars y v e with ⟨z, _⟩ | ⟨z, w, h1, h2⟩
    ·exact .inl z
    ·obtain ⟨c, hc⟩ := lookupC _ z
     exact .inr ⟨.inl z, c, w, hc, h1 ▸ x.cell _ c hc, h2⟩
   ·exact ⟨_, x.cell n c hc⟩
   ·exact fresh c (Nat.le_of_lt (by have := x.above n c (mem_of_lookup hc); rw [eL] at this; exact this))
  refine hT.run env _ s₁ _ σ _ _ _ en ⟨by show A.handled = _; exact ao.handled, by show A.depth + 1 + 3 * j + 3 < _; exact AE ao.depth (by decide), by show A.units + 3 + 10 * j + 20 < _; exact AE ao.units (by decide)⟩ R₁ F₁ q fun fl g m' σ' s' hf R' F' S' q' => ?_
  have S₀ : Step no σ σ' s.heap s'.heap :=
   ⟨fun b o e n _ => S'.keepL b o (keep b o e) n (fun z => by
     have hlt := Heap.lt_size e
     rcases z with z | ⟨n', z⟩
     ·rw [z, eL] at hlt; exact Nat.lt_irrefl _ hlt
     ·have := x.above n' b (mem_of_lookup z); rw [eL] at this; exact Nat.lt_irrefl _ (Nat.lt_trans hlt this)),
    Nat.le_trans hz S'.size, fun b n m => Nat.le_trans hz (S'.new b n m)⟩
  cases hf with
  | next => exact hP .none .none σ' s' .none R' S₀ q'
  | ret hv => exact hP _ _ σ' s' hv R' S₀ q'
  | brk => exact q'.elim
  | cont => exact q'.elim
end
end Mine
end
noncomputable section
set_option tactic.hygienic false
namespace Mine
open PySem
section
variable {C : Cx} {sc : Scope} {k : Nat}
noncomputable def aD (es : List Expr) : Bool := es.all eU
theorem a9 {es : List Expr} {env : Env} {pos : Pos} (h : aD es = true) : (backTo pos (starEach es env)).any (·.1) = false := by
 induction es with
 | nil => rfl
 | cons e r ih =>
  simp only [aD, List.all_cons, Bool.and_eq_true] at h
  rw [bz h.1]
  show ((false, _) :: backTo pos (starEach r env)).any (·.1) = false
  rw [List.any_cons, ih h.2]; rfl
theorem aY {f : Value} {es : List Expr} {env : Env} {pos : Pos} {M : Model} {A : Around} {s : Shared} {Q : Args → Shared → Prop} {E : Value → Shared → Prop} (h : aD es = true)
  (hs : wpAny M A (spliced (backTo pos (starEach es env))) (fun vs s' => Q ⟨vs, []⟩ s') E s) : wpAny M A (evalArgs f true (backTo pos (starEach es env)) []) Q E s := by
 cases es with
 | nil =>
  unfold evalArgs
  show wpAny M A (spliced [] >>= _) Q E s
  refine wpAny_bind (wpAny_mono hs (fun vs s' h' => ?_) fun _ _ x => x)
  refine wpAny_holding ?_
  exact wpAny_bind (wpAny_pure (wpAny_bind (wpAny_pure (wpAny_pure h'))))
 | cons e r =>
  simp only [aD, List.all_cons, Bool.and_eq_true] at h
  rw [bz h.1] at hs ⊢
  exact Calls.evalArgs_plain hs
noncomputable def aM (spec : bR) (L : LT) : ET := fun m σ Q => L m σ fun vs σ' => spec vs σ' Q
theorem wv (O : C.Ok) {f : String} {a : Addr} {o : Obj} {fd : FuncData} {np pos : Pos} {es : List Expr} {L : LT} {spec : bR} {j : Nat} (hf : FnSound C j a spec) (hj : j < k)
  (hn : sc.names.lookup (Str.ofString f) = some .globalImplicit) (hg : C.mg (Str.ofString f) = some (.ref a)) (ho : C.hB.get? a = some o) (hd : o.data = .func fd) (hdb : (Str.ofString f == ("__debug__" : Str)) = false)
  (hl : HL C sc k es L) (hp : aD es = true) : HE C sc k (.Call (.Name (Str.ofString f) np) es [] pos) (aM spec L) := by
 refine ⟨?_⟩; intro env A s m σ Q P E en ao R F q hP
 refine wpAny_Call_NameR (Calls.Name_function_global en.k (en.of hn) (Calls.loadGlobal_global (mg := C.mg) (by rw [en.globals]; exact O.g.keeps R.base) hg ?_) hdb)
 refine Calls.callWith_function (o := o) (fd := fd) (aY hp (hl.run env A s m σ pos _ _ E en ao R F q fun vs ws σ₁ s₁ hv R₁ S₁ q₁ => ⟨⟨R₁.base _ _ ho, hd⟩, ?_⟩))
 exact wpAny_call (hf A s₁ σ₁ vs ws Q P E (ao.le hj) R₁ hv q₁ fun v w σ' s' hv' R' S' q' => hP v w σ' s' hv' R' (S₁.trans S') q')
noncomputable def nG (C : Cx) (k : Nat) (t : List Value → Sem Value) (op : bR) : Prop :=
 ∀ (A : Around) (s : Shared) (σ : ag) (vs : List V) (ws : List Value) (Q : V → ag → Prop) (P E : Value → Shared → Prop), AOk C A k → RelG C σ s → VRels C.aS s.heap vs ws → op vs σ Q → uX C σ s Q P →
  wpAny (model C.prog C.w) A (t ws) P E s
theorem c7 (O : C.Ok) {f : String} {id : String} {np pos : Pos} {es : List Expr} {L : LT} {op : bR} (hop : nG C k (fun ws => PySem.call (.builtin id) ws) op)
  (hn : sc.names.lookup (Str.ofString f) = some .globalImplicit) (hg : C.mg (Str.ofString f) = Option.none) (hb : C.mb (Str.ofString f) = some (.builtin id)) (hdb : (Str.ofString f == ("__debug__" : Str)) = false)
  (hl : HL C sc k es L) (hp : aD es = true) : HE C sc k (.Call (.Name (Str.ofString f) np) es [] pos) (aM op L) := by
 refine ⟨?_⟩; intro env A s m σ Q P E en ao R F q hP
 refine wpAny_Call_NameR (Calls.Name_function_global en.k (en.of hn) (Calls.loadGlobal_builtin (mg := C.mg) (mb := C.mb) (by rw [en.globals]; exact O.g.keeps R.base) hg (by rw [en.builtins]; exact O.b.keeps R.base) hb ?_) hdb)
 refine Calls.callWith_builtin (a9 hp) (aY hp (hl.run env A s m σ pos _ _ E en ao R F q fun vs ws σ₁ s₁ hv R₁ S₁ q₁ => ?_))
 exact hop A s₁ σ₁ vs ws Q P E ao R₁ hv q₁ fun v w σ' s' hv' R' S' q' => hP v w σ' s' hv' R' (S₁.trans S') q'
theorem iO (O : C.Ok) {f : String} {id : String} {np pos : Pos} {es : List Expr} {L : LT} {op : bR} (hop : nG C k (fun ws => PySem.call (.type id) ws) op)
  (hn : sc.names.lookup (Str.ofString f) = some .globalImplicit) (hg : C.mg (Str.ofString f) = Option.none) (hb : C.mb (Str.ofString f) = some (.type id)) (hdb : (Str.ofString f == ("__debug__" : Str)) = false)
  (hl : HL C sc k es L) (hp : aD es = true) : HE C sc k (.Call (.Name (Str.ofString f) np) es [] pos) (aM op L) := by
 refine ⟨?_⟩; intro env A s m σ Q P E en ao R F q hP
 refine wpAny_Call_NameR (Calls.Name_function_global en.k (en.of hn) (Calls.loadGlobal_builtin (mg := C.mg) (mb := C.mb) (by rw [en.globals]; exact O.g.keeps R.base) hg (by rw [en.builtins]; exact O.b.keeps R.base) hb ?_) hdb)
 refine callWith_type (a9 hp) (aY hp (hl.run env A s m σ pos _ _ E en ao R F q fun vs ws σ₁ s₁ hv R₁ S₁ q₁ => ?_))
 exact hop A s₁ σ₁ vs ws Q P E ao R₁ hv q₁ fun v w σ' s' hv' R' S' q' => hP v w σ' s' hv' R' (S₁.trans S') q'
structure It (C : Cx) (k : Nat) (I : Addr) (items : List V) (inv : ag → Prop) (St : Nat → Heap → Prop) : Prop where
 frame : ∀ i h h', St i h → (∀ o, h.get? I = some o → h'.get? I = some o) → a0 h h' → St i h'
 live : ∀ i h, St i h → ∃ o, h.get? I = some o ∧ ¬ jN o ∧ ∀ v, o.data ≠ .cell v
 flds : ∀ i h, St i h → ∀ o, h.get? I = some o → ∀ es ep, o.data ≠ .dict es ep
 next : ∀ (A : Around) (σ : ag) (s : Shared) (i : Nat) (v : V) (Q : Option Value → Shared → Prop) (E : Value → Shared → Prop), AOk C A k → RelG C σ s → inv σ → St i s.heap → items[i]? = some v →
  (∀ w h' tk, VRel C.aS h' v w → St (i + 1) h' → Heap.ExtBut I s.heap h' → Q (some w) { s with heap := h', toks := tk }) → wpAny (model C.prog C.w) A (pyNext (.ref I)) Q E s
 done : ∀ (A : Around) (σ : ag) (s : Shared) (Q : Option Value → Shared → Prop) (E : Value → Shared → Prop), AOk C A k → RelG C σ s → inv σ → St items.length s.heap →
  (∀ h' tk, Heap.ExtBut I s.heap h' → Q Option.none { s with heap := h', toks := tk }) → wpAny (model C.prog C.w) A (pyNext (.ref I)) Q E s
 self : ∀ (A : Around) (s : Shared) (i : Nat) (Q : Value → Shared → Prop) (E : Value → Shared → Prop), St i s.heap → Q (.ref I) s → wpAny (model C.prog C.w) A (pyIter (.ref I)) Q E s
 own : ∀ (A : Around) (s : Shared) (i : Nat) (t : Expr) (w : Value) (Q : Unit → Shared → Prop) (E : Value → Shared → Prop), St i s.heap → Q () s → wpAny (model C.prog C.w) A (letOwnedTupleGo t (.ref I) w) Q E s
abbrev IT := aU → ag → (List V → (ag → Prop) → ag → Prop) → Prop
structure HI (C : Cx) (sc : Scope) (k : Nat) (e : Expr) (T : IT) : Prop where
 run : ∀ (env : Env) (A : Around) (s : Shared) (m : aU) (σ : ag) (Q : List V → (ag → Prop) → ag → Prop) (P : Value → Shared → Prop) (E : Value → Shared → Prop),
  EnvOk env sc → AOk C A k → RelG C σ s → FrameRel C env m σ s.heap → T m σ Q →
  (∀ items inv I St σ' s', It C k I items inv St → St 0 s'.heap → s.heap.objs.size ≤ I → σ' I = Option.none → RelG C σ' s' → Step no σ σ' s.heap s'.heap → Q items inv σ' → P (.ref I) s') →
  wpAny (model C.prog C.w) A (eval e env) (fun x s₁ => wpAny (model C.prog C.w) A (pyIter x) P E s₁) E s
theorem cN {σ : ag} {s : Shared} {h' : Heap} {tk : Nat} {I : Addr} (R : RelG C σ s) (hx : Heap.ExtBut I s.heap h') (hσ : σ I = Option.none) (hb : C.hB.get? I = Option.none) (hI : ∃ o, s.heap.get? I = some o ∧ ¬ jN o ∧ ∀ v, o.data ≠ .cell v) :
  RelG C σ { s with heap := h', toks := tk } := by
 obtain ⟨oI, hoI, hT, _⟩ := hI
 have kt : a0 s.heap h' := fun b o e ht => hx b o (by rintro rfl; rw [hoI] at e; cases e; exact hT ht) e
 exact ⟨let ⟨_, _, d, e⟩ := R.rest; ⟨h', tk, d, by rw [e]⟩, fun b o e => hx b o (by rintro rfl; rw [hb] at e; cases e) (R.base b o e),
  fun a o e => (R.view a o e).keep kt fun o' e' => hx a o' (by rintro rfl; rw [hσ] at e; cases e) e', R.apart⟩
theorem ck {env : Env} {m : aU} {σ : ag} {s : Shared} {h' : Heap} {I : Addr} (F : FrameRel C env m σ s.heap) (hx : Heap.ExtBut I s.heap h') (hI : ∃ o, s.heap.get? I = some o ∧ ¬ jN o ∧ ∀ v, o.data ≠ .cell v) (hL : I ≠ env.locals) : FrameRel C env m σ h' := by
 obtain ⟨oI, hoI, hT, hC⟩ := hI
 have kt : a0 s.heap h' := fun b o e ht => hx b o (by rintro rfl; rw [hoI] at e; cases e; exact hT ht) e
 have kc : ∀ c v, s.heap.IsCell c v → h'.IsCell c v := fun c v ⟨o, ho, hd⟩ => ⟨o, hx c o (by rintro rfl; rw [hoI] at ho; cases ho; exact hC _ hd) ho, hd⟩
 obtain ⟨mm, hn, hm⟩ := F.ns
 refine ⟨⟨mm, hn.extBut hx (Ne.symm hL), fun y u e ky => ?_⟩, fun y u e => ?_, fun n c e => ?_, F.sepL, F.baseL, F.baseC, F.dist, F.has⟩
 ·obtain ⟨w, h1, h2⟩ := hm y u e ky; exact ⟨w, h1, h2.keep kt⟩
 ·rcases F.cel y u e with z | ⟨z, c, w', h1, h2, h3⟩
  ·exact .inl z
  ·exact .inr ⟨z, c, w', h1, kc _ _ h2, h3.keep kt⟩
 ·obtain ⟨v, hv⟩ := F.cells n c e; exact ⟨v, kc _ _ hv⟩
inductive Tgt where
 | name (x : String)
 | tup (xs : List String)
noncomputable def eE : Tgt → V → aU → Option aU
 | .name x, v, m => some (put m x v)
 | .tup xs, .tup vs, m => if xs.length = vs.length then some (aG xs vs m) else Option.none
 | .tup _, _, _ => Option.none
noncomputable def AD (loc : Bool) (env : Env) (b : Addr) : Prop := b = env.locals ∨ (loc = false ∧ ∃ n, env.cells.lookup n = some b)
structure HT (C : Cx) (sc : Scope) (k : Nat) (loc : Bool) (t : Expr) (g : Tgt) : Prop where
 run : ∀ (env : Env) (A : Around) (s : Shared) (m m' : aU) (σ : ag) (v : V) (w : Value) (P : Unit → Shared → Prop) (E : Value → Shared → Prop),
  EnvOk env sc → AOk C A k → RelG C σ s → FrameRel C env m σ s.heap → VRel C.aS s.heap v w → eE g v m = some m' →
  (∀ s', RelG C σ s' → FrameRel C env m' σ s'.heap → Step (AD loc env) σ σ s.heap s'.heap → P () s') → wpAny (model C.prog C.w) A (assign t env w) P E s
theorem aT {x : String} {pos : Pos} (hx : sc.names.lookup (Str.ofString x) = some .local) : HT C sc k true (.Name (Str.ofString x) pos) (.name x) := by
 refine ⟨?_⟩; intro env A s m m' σ v w P E en ao R F hv hb hP
 cases hb
 exact wpAny_assign_Name (dS en R F hx hv fun s' R' F' S' => hP s' R' F' (S'.mono fun _ _ _ z => .inl z))
noncomputable def iq (g : Tgt) (inv : ag → Prop) (T : ST) : List V → ST
 | [] => fun m σ Q => inv σ ∧ Q .next m σ
 | v :: r => fun m σ Q => inv σ ∧ ∃ m', eE g v m = some m' ∧ T m' σ fun f m₁ σ₁ => match f with
  | .next => iq g inv T r m₁ σ₁ Q
  | .cont => iq g inv T r m₁ σ₁ Q
  | .brk => Q .next m₁ σ₁
  | .ret u => Q (.ret u) m₁ σ₁
noncomputable def cU (g : Tgt) (I : IT) (T : ST) : ST := fun m σ Q => I m σ fun items inv σ' => iq g inv T items m σ' Q
inductive ForInv (C : Cx) (env : Env) (σ : ag) (h : Heap) (I : Addr) (items : List V) (St : Nat → Heap → Prop) (L : List V → aU → ag → Prop) (n : Nat) (s' : Shared) : Prop
 | mk (i : Nat) (m' : aU) (σ' : ag) (rest : List V) (e1 : items.drop i = rest) (e2 : i ≤ items.length) (e3 : n = rest.length + 1) (st : St i s'.heap) (hσ : σ' I = Option.none) (R : RelG C σ' s') (F : FrameRel C env m' σ' s'.heap)
   (S : Step (fun b => jd env b ∨ b = I) σ σ' h s'.heap) (q : L rest m' σ') : ForInv C env σ h I items St L n s'
theorem bc {target iter : Expr} {body : List Stmt} {pos : Pos} {g : Tgt} {I : IT} {T : ST} {loc : Bool} (ht : HT C sc k loc target g) (hi : HI C sc k iter I) (hb : HS C sc k body T)
  (hf : ∀ env x, foldedSetIterable iter env x = pure x) : HS1 C sc k (.For target iter body [] pos) (cU g I T) := by
 refine ⟨?_⟩; intro env A s m σ Q P E en ao R F q hP
 rw [exec_For]
 refine wpAny_bind (wpAny_standAt ?_)
 have start : wpAny (model C.prog C.w) A (eval iter env) (fun x s₁ => wpAny (model C.prog C.w) A (pyIter x) (fun it s₂ => codeAny (model C.prog C.w) A (.forLoop target it body [] env) (fun r s' => match r with | .ok f => P f s' | .error e => cameBackBy (model C.prog C.w) A env E e s') s₂) E s₁) E s := by
  refine hi.run env A s m σ _ _ E en ao R F q fun items inv I St σ₀ s₀ hit st₀ hI hσ₀ R₀ S₀ q₀ => ?_
  have F₀ := F.step R S₀
  obtain ⟨mm, hn, _⟩ := F.ns
  have hIL : I ≠ env.locals := fun e => absurd hn.lt (Nat.not_lt.mpr (e ▸ hI))
  have hIb : C.hB.get? I = Option.none := R.baseNone (aB hI)
  have back : ∀ {σ' : ag} {h' : Heap}, Step (fun b => jd env b ∨ b = I) σ σ' s.heap h' → Step (jd env) σ σ' s.heap h' := fun S =>
   S.mono fun b o e z => z.elim id fun z => absurd (Heap.lt_size e) (Nat.not_lt.mpr (z ▸ hI))
  refine codeAny_forLoop_any
   (ForInv C env σ s.heap I items St fun rest m' σ' => iq g inv T rest m' σ' Q) ?_ _
   ⟨0, m, σ₀, items, by simp, by simp, rfl, st₀, hσ₀, R₀, F₀, S₀.mono fun _ _ _ z => z.elim, q₀⟩
  rintro n s' ⟨i, m', σ', rest, e1, e2, rfl, st, hσ', R', F', S', q'⟩
  have drew : ∀ {h' : Heap}, Heap.ExtBut I s'.heap h' → s'.heap.objs.size ≤ h'.objs.size → Step (fun b => jd env b ∨ b = I) σ' σ' s'.heap h' := fun hx hsz =>
   .of (fun b o e _ q => hx b o (fun z => q (.inr z)) e) hsz fun _ a b => absurd a b
  cases rest with
  | nil =>
   have hil : i = items.length := oJ e1 e2
   subst hil
   refine a7 (hit.done A σ' s' _ _ ao R' q'.1 st fun h' tk hx hsz => ?_)
   exact wpAny_execs_nil (hP .next .next m' σ' _ .next (cN (tk := tk) R' hx hσ' hIb (hit.live _ _ st)) (ck F' hx (hit.live _ _ st) hIL) (back (S'.trans (drew hx hsz))) q'.2)
  | cons v r =>
   obtain ⟨hinv, m₁, hm₁, q'⟩ := q'
   have hiv : items[i]? = some v := by
    have : (items.drop i)[0]? = some v := by rw [e1]; rfl
    simpa using this
   have hilt : i < items.length := q9 e1
   refine a7 (hit.next A σ' s' i v _ _ ao R' hinv st hiv fun w h₁ tk₁ hv st₁ hx hsz => ?_)
   have R₁ := cN (tk := tk₁) R' hx hσ' hIb (hit.live _ _ st)
   have F₁ := ck F' hx (hit.live _ _ st) hIL
   have S₁ := S'.trans (drew hx hsz)
   refine hit.own A _ (i + 1) target w _ _ st₁ ?_
   refine ht.run env A _ m' m₁ σ' v w _ _ en ao R₁ F₁ hv hm₁ fun s₂ R₂ F₂ S₂L => ?_
   have S₂ : Step (jd env) σ' σ' h₁ s₂.heap := S₂L.mono fun _ _ _ z => z.imp id fun z => z.2
   have S₂' : Step (fun b => jd env b ∨ b = I) σ' σ' h₁ s₂.heap := S₂.mono fun _ _ _ z => .inl z
   have st₂ : St (i + 1) s₂.heap := hit.frame _ _ _ st₁ (fun o e => S₂.keep I o e hσ' (fun z => by
    rcases z with z | ⟨n, z⟩
    ·exact hIL z
    ·obtain ⟨u, ou, hou, hdu⟩ := F₁.cells n I z
     obtain ⟨o', ho', _, hc'⟩ := hit.live _ _ st₁
     have : ou = o' := Option.some.inj (hou.symm.trans ho')
     exact hc' u (this ▸ hdu)) (hit.flds _ _ st₁ o e)) (S₂.tupsO F₁ R₁)
   refine hb.run env A s₂ m₁ σ' _ _ _ en ao R₂ F₂ q' fun f fl m₃ σ₃ s₃ hf R₃ F₃ S₃ q₃ => ?_
   have S₃' : Step (fun b => jd env b ∨ b = I) σ' σ₃ s₂.heap s₃.heap := S₃.mono fun _ _ _ z => .inl z
   have SS := (S₁.trans S₂').trans S₃'
   have go : iq g inv T r m₃ σ₃ Q → ∃ k', k' < (v :: r).length + 1 ∧ ForInv C env σ s.heap I items St (fun rest m' σ' => iq g inv T rest m' σ' Q) k' s₃ := fun q₃ => by
    refine ⟨r.length + 1, Nat.lt_succ_self _, i + 1, m₃, σ₃, r, ?_, hilt, rfl, ?_, ?_, R₃, F₃, SS, q₃⟩
    ·rw [← List.tail_drop, e1]; rfl
    ·refine hit.frame _ _ _ st₂ (fun o e => S₃.keep I o e hσ' (fun z => ?_) (hit.flds _ _ st₂ o e)) (S₃.tupsO F₂ R₂)
     rcases z with z | ⟨n, z⟩
     ·exact hIL z
     ·obtain ⟨u, ou, hou, hdu⟩ := F₂.cells n I z
      obtain ⟨o', ho', _, hc'⟩ := hit.live _ _ st₂
      have : ou = o' := Option.some.inj (hou.symm.trans ho')
      exact hc' u (this ▸ hdu)
    ·cases z : σ₃ I with
     | none => rfl
     | some o =>
      obtain ⟨o', ho', _⟩ := hit.live _ _ st₂
      exact absurd (Heap.lt_size ho') (Nat.not_lt.mpr (S₃.new I hσ' (by rw [z]; simp)))
   cases hf with
   | next => exact go q₃
   | cont => exact go q₃
   | brk => exact hP .next .next m₃ σ₃ s₃ .next R₃ F₃ (back SS) q₃
   | ret hv => exact hP _ _ m₃ σ₃ s₃ (.ret hv) R₃ F₃ (back SS) q₃
 refine wpAny_bind (wpAny_mono start (fun x s₁ h₁ => wpAny_bind (wpAny_of_eq (hf env x) (wpAny_bind (wpAny_standAt (wpAny_bind (wpAny_holding (wpAny_mono h₁ (fun it s₂ h₂ => wpAny_runOwn h₂) fun _ _ h' => h'))))))) fun _ _ h' => h')
end
end Mine
end
noncomputable section
set_option tactic.hygienic false
namespace Mine
open PySem
noncomputable def Hd (A : Around) (h : Heap) : Prop := A.handled = none ∨ ∃ e o vs, A.handled = some (.ref e) ∧ h.get? e = some o ∧ o.data = .fields vs ∧ vs[2]? = some .none
section
variable {prog : Program} {w : World} {A : Around} {E : Value → Shared → Prop} {s : Shared}
theorem lO : entryFor table "proto.unchain" = some Builtin.«proto.unchain» := entryFor_of_fast (by kernel_rfl)
theorem lJ : plainId "proto.unchain" = true := by decide +kernel
theorem nR {e : Addr} {x : Value} {o : Obj} {vs : Array Value} {Q : Value → Shared → Prop} (ho : s.heap.get? e = some o) (hd : o.data = .fields vs) (h2 : vs[2]? = some .none) (h : Q .none s) :
  wpAny (model prog w) A (runValue (.builtin "proto.unchain" ⟨[x, .ref e, .ref e, .bool false], []⟩)) Q E s := by
 refine wpAny_runValue (codeAny_builtin lO ?_)
 rw [Around.under_plainId lJ _]
 unfold Builtin.«proto.unchain»
 dsimp only
 refine wpAny_bind (wpAny_field ho hd h2 ?_)
 rw [if_pos (by decide)]
 exact wpAny_pure h
theorem wA {Q : Option Value → Shared → Prop} {P : Fin → Shared → Prop} (hh : Hd A s.heap) (h : ∀ h', (∀ b o, s.heap.get? b = some o → h'.get? b = some o) → Q none { s with heap := h' }) :
  wpAny (model prog w) A.in1 (do
    let e ← newExc (Value.type "StopIteration") []
    raiseNew e) P (fun e s' => wpAny (model prog w) A (do
     let b ← isInstance e (Value.type "StopIteration")
     if b = true then pure none else throw e) Q E s') s := by
 refine wpAny_bind ?_
 simp only [newExc, newTuple]
 refine wpAny_bind (wpAny_newObj_type ?_ (by size_fits))
 refine wpAny_bind (m := firstArgMember _ _) (wpAny_of_eq (a := Value.none) (by first | rfl | (simp only [firstArgMember]; rfl)) ?_)
 refine wpAny_newObj_type ?_ (by size_fits)
 simp only [raiseNew]
 refine wpAny_bind (wpAny_handled ?_)
 rcases hh with hh | ⟨e, o, vs, hh, ho, hd, h2⟩
 ·rw [show A.in1.handled = none from hh]
  refine wpAny_bind (wpAny_pure (wpAny_throw ?_))
  refine wpAny_bind (wpAny_isInstance (T := "StopIteration") (b := true) ⟨_, Heap.get?_push_size _ rfl, rfl⟩ isSubtype_stop ?_)
  exact wpAny_pure (h _ fun b o e => Heap.get?_push_of_some _ (Heap.get?_push_of_some _ e))
 ·rw [show A.in1.handled = some (.ref e) from hh]
  dsimp only
  have hlt := Heap.lt_size ho
  have hne : e ≠ s.heap.objs.size + 1 := Nat.ne_of_lt (Nat.lt_succ_of_lt hlt)
  rw [Heap.size_push]
  rw [if_pos (by simp [hne])]
  have ho2 := Heap.get?_push_of_some (h := s.heap.push { cls := .type "tuple", dict := none, data := .seq ([] : List Value).toArray }) { cls := .type "StopIteration", dict := none, data := .fields (#[.ref s.heap.objs.size, .none, .none, .none, .bool false, .none] ++ ownMembersOf (.type "StopIteration") []) } (Heap.get?_push_of_some _ ho)
  refine wpAny_bind (wpAny_holding (nR ho2 hd h2 ?_))
  have hn := Heap.get?_push_size (s.heap.push { cls := .type "tuple", dict := none, data := .seq ([] : List Value).toArray }) (o := { cls := .type "StopIteration", dict := none, data := .fields (#[.ref s.heap.objs.size, .none, .none, .none, .bool false, .none] ++ ownMembersOf (.type "StopIteration") []) }) rfl
  rw [Heap.size_push] at hn
  refine wpAny_bind (show wpAny _ _ (setField (.ref (s.heap.objs.size + 1)) 2 (.ref e)) _ _ _ from wpAny_setField hn rfl (by rw [Array.size_append]; show 2 < 6 + _; exact Nat.le_add_left _ _) (wpAny_throw ?_))
  have hd3 := Obj.data_mapFields (o := { cls := .type "StopIteration", dict := none, data := .fields (#[.ref s.heap.objs.size, .none, .none, .none, .bool false, .none] ++ ownMembersOf (.type "StopIteration") []) }) rfl (·.setIfInBounds 2 (Value.ref e))
  have hn3 := Heap.get?_update_self (Obj.mapFields (·.setIfInBounds 2 (Value.ref e))) hn (Obj.isFreed_of_fields hd3)
  refine wpAny_bind (wpAny_isInstance (T := "StopIteration") (b := true) ⟨_, hn3, Obj.cls_mapFields _ _⟩ isSubtype_stop ?_)
  refine wpAny_pure (h _ fun b o e => ?_)
  rw [Heap.get?_update_other _ _ (Ne.symm (Nat.ne_of_lt (Nat.lt_succ_of_lt (Heap.lt_size e))))]
  exact Heap.get?_push_of_some _ (Heap.get?_push_of_some _ e)
theorem l9 {it l : Addr} {i : Nat} {items : Array Value} {Q : Option Value → Shared → Prop} (hh : Hd A s.heap)
  (hit : s.heap.IsListIter it l i) (hl : s.heap.IsList l items) (hx : items[i]? = none) (hie : ∀ e, A.handled = some (.ref e) → e ≠ it)
  (hQ : ∀ h', Heap.ExtBut it s.heap h' → Q none { s with heap := h' }) : wpAny (model prog w) A (pyNext (.ref it)) Q E s := by
 obtain ⟨o, ho, hc, hd⟩ := id hit
 obtain ⟨ol, hol, _, nl, hdl⟩ := hl
 unfold pyNext
 refine wpAny_bind (wpAny_attempt (wpAny_callSpecial?_slot (name := Str.ofString "__next__") hit.typeIs slot_listiter_next
  (wpAny_call_entry slot_listiter_next hit.typeIs entry_listiter_next ?_ (args_listiter_next _))))
 show wpAny _ _ (field (.ref it) 0 >>= _) _ _ s
 refine wpAny_bind (wpAny_field ho hd (x := .ref l) rfl ?_)
 show wpAny _ _ (if (Value.ref l == Value.none) = true then _ else _) _ _ s
 rw [if_neg (show ¬ ((Value.ref l == Value.none) = true) from Bool.false_ne_true)]
 show wpAny _ _ (field (.ref it) 1 >>= _) _ _ s
 refine wpAny_bind (wpAny_field ho hd (x := .int i 0) rfl ?_)
 show wpAny _ _ (seqItems? (.ref l) >>= _) _ _ s
 refine wpAny_bind (wpAny_seqItems hol hdl ?_)
 simp only [Int.toNat_natCast, hx]
 refine wpAny_bind (wpAny_rule (wpAny_bind (wpAny_setField ho hd (by simp) ?_)))
 refine wA ?_ fun h' hk => hQ h' fun b o' hb e => hk b o' ((Heap.SameBut.update s.heap it _).extBut b o' hb e)
 rcases hh with hh | ⟨e, o', vs, hh, ho', hd', h2⟩
 ·exact .inl hh
 ·exact .inr ⟨e, o', vs, hh, (Heap.get?_update_other _ _ (Ne.symm (hie e hh))).trans ho', hd', h2⟩
theorem j4 {it t : Addr} {i : Nat} {items : Array Value} {Q : Option Value → Shared → Prop} (hh : Hd A s.heap)
  (hit : s.heap.IsTupleIter it t i) (ht : s.heap.IsTuple t items) (hx : items[i]? = none) (hie : ∀ e, A.handled = some (.ref e) → e ≠ it)
  (hQ : ∀ h', Heap.ExtBut it s.heap h' → Q none { s with heap := h' }) : wpAny (model prog w) A (pyNext (.ref it)) Q E s := by
 obtain ⟨o, ho, hc, hd⟩ := id hit
 obtain ⟨ol, hol, _, nl, hdl⟩ := ht
 unfold pyNext
 refine wpAny_bind (wpAny_attempt (wpAny_callSpecial?_slot (name := Str.ofString "__next__") hit.typeIs F.slot_tuple_iterator_next
  (wpAny_call_entry F.slot_tuple_iterator_next hit.typeIs F.entry_tuple_iterator_next ?_ (F.args_tuple_iterator_next_1 _))))
 show wpAny _ _ (field (.ref it) 0 >>= _) _ _ s
 refine wpAny_bind (wpAny_field ho hd (x := .ref t) rfl ?_)
 show wpAny _ _ (if (Value.ref t == Value.none) = true then _ else _) _ _ s
 rw [if_neg (show ¬ ((Value.ref t == Value.none) = true) from Bool.false_ne_true)]
 show wpAny _ _ (field (.ref it) 1 >>= _) _ _ s
 refine wpAny_bind (wpAny_field ho hd (x := .int i 0) rfl ?_)
 show wpAny _ _ (seqItems? (.ref t) >>= _) _ _ s
 refine wpAny_bind (wpAny_seqItems hol hdl ?_)
 simp only [Int.toNat_natCast, hx]
 refine wpAny_bind (wpAny_rule (wpAny_bind (wpAny_setField ho hd (by simp) ?_)))
 refine wA ?_ fun h' hk => hQ h' fun b o' hb e => hk b o' ((Heap.SameBut.update s.heap it _).extBut b o' hb e)
 rcases hh with hh | ⟨e, o', vs, hh, ho', hd', h2⟩
 ·exact .inl hh
 ·exact .inr ⟨e, o', vs, hh, (Heap.get?_update_other _ _ (Ne.symm (hie e hh))).trans ho', hd', h2⟩
theorem we {env : Env} {elts : List Expr} {x1 : Nat} {pos : Pos} {t : Addr} {items : Array Value} {Q : Unit → Shared → Prop} (hh : Hd A s.heap) (ht : s.heap.IsTuple t items)
  (hn : (assignEach elts env).length = items.size) (hstar : (assignEach elts env).findIdx? (·.1) = none)
  (h : ∀ h', Heap.ExtBut s.heap.objs.size s.heap h' → wpAny (model prog w) A (assignInOrder ((assignEach elts env).map (·.2)) items.toList) Q E { s with heap := h' }) :
  wpAny (model prog w) A (assign (.Tuple elts x1 pos) env (.ref t)) Q E s := by
 rw [arm_assign_Tuple]
 refine wpAny_bind (wpAny_standAt ?_)
 unfold unpack
 rw [hn, hstar]
 refine wpAny_bind (wpAny_holding ?_)
 have hlt : t ≠ s.heap.objs.size := by obtain ⟨o, ho, _⟩ := ht; exact Nat.ne_of_lt (Heap.lt_size ho)
 unfold unpackItems
 refine wpAny_bind ?_
 unfold notIterableAtAll
 refine wpAny_bind (wpAny_specialOf ht.typeIs F.slot_tuple_iter.lookup ?_)
 refine wpAny_pure ?_
 simp only [Bool.false_eq_true, if_false]
 refine wpAny_bind (wpAny_holding (wpAny_pyIter_tuple ht ?_))
 refine wpAny_bind (wpAny_holding (wpAny_draw_tuple hlt items.size 0 _ _ ⟨_, Heap.get?_push_size _ rfl, rfl, rfl⟩ (ht.push _) (by exact dK fun hg => lN [(items.size)] 0x100101061 rfl hg) fun h₁ hit₁ hs₁ => ?_))
 have hall : List.take items.size (List.drop 0 items.toList) = items.toList := by
  rw [List.drop_zero]; exact List.take_of_length_le (by simp)
 rw [hall]
 rw [if_neg (by simp)]
 have ht₁ : h₁.IsTuple t items := (ht.push _).extBut hs₁.extBut hlt
 have hd₁ : Hd A h₁ := by
  rcases hh with hh | ⟨e, o', vs, hh, ho', hd', h2⟩
  ·exact .inl hh
  ·exact .inr ⟨e, o', vs, hh, hs₁.extBut e o' (Nat.ne_of_lt (Heap.lt_size ho')) (Heap.get?_push_of_some _ ho'), hd', h2⟩
 refine wpAny_bind (wpAny_holding (j4 hd₁ hit₁ ht₁ (by simp) (fun e he => ?_) fun h₂ he₂ => ?_))
 ·rcases hh with hh | ⟨e', o', vs, hh, ho', hd', h2⟩
  ·rw [hh] at he; cases he
  ·rw [hh] at he; cases he; exact Nat.ne_of_lt (Heap.lt_size ho')
 simp only [Option.isSome_none, Bool.false_eq_true, if_false]
 exact wpAny_pure (h h₂ fun b o hb e => he₂ b o hb (hs₁.extBut b o hb (Heap.get?_push_of_some _ e)))
end
end Mine
end
noncomputable section
namespace Mine
open PySem
section
variable {C : Cx} {sc : Scope} {k : Nat}
theorem cF {I : Addr} {o : Obj} {n : String} {A : Around} {s : Shared} {t : Expr} {w : Value} {Q : Unit → Shared → Prop} {E : Value → Shared → Prop} (ho : s.heap.get? I = some o) (hc : o.cls = .type n)
  (hn : ["enumerate", "zip", "dict_itemiterator", "dict_reverseitemiterator", "odict_iterator", "itertools.zip_longest", "itertools.pairwise"].contains n = false) (q : Q () s) : wpAny (model C.prog C.w) A (letOwnedTupleGo t (.ref I) w) Q E s := by
 have fin : ∀ vs a, wpAny (model C.prog C.w) A (if (["enumerate", "zip", "dict_itemiterator", "dict_reverseitemiterator", "odict_iterator", "itertools.zip_longest", "itertools.pairwise"].contains n && (vs : Array Value)[0]? == some (rawInt a)) = true then (do rule "for.unpacks-the-owned-tuple"; updateField I 0 .none) else pure ()) Q E s := fun vs a => by
  rw [hn, Bool.false_and, if_neg Bool.false_ne_true]; exact wpAny_pure q
 cases t <;> first | exact wpAny_pure q | skip
 all_goals
  cases w <;> first | exact wpAny_pure q | skip
  refine wpAny_bind (wpAny_load ho ?_)
  rw [hc]
  cases hd : o.data <;> first | exact wpAny_pure q | exact fin _ _
theorem AOk.hd {A : Around} {σ : ag} {s : Shared} (ao : AOk C A k) (O : C.Ok) (R : RelG C σ s) : Hd A s.heap := by
 cases z : C.held with
 | none => exact .inl (ao.none z)
 | some e =>
  obtain ⟨o, vs, h1, h2, h3⟩ := O.heldOk e z
  exact .inr ⟨e, o, vs, by rw [ao.handled, z]; rfl, R.base _ _ h1, h2, h3⟩
theorem AOk.ne {A : Around} {σ : ag} {s : Shared} {I : Addr} {oI : Obj} {a b : Value} (ao : AOk C A k) (O : C.Ok) (R : RelG C σ s) (hI : s.heap.get? I = some oI) (hd : oI.data = .fields #[a, b]) : ∀ e, A.handled = some (.ref e) → e ≠ I := by
 rintro e he rfl
 rw [ao.handled] at he
 cases z : C.held with
 | none => rw [z] at he; cases he
 | some e' =>
  rw [z] at he; cases he
  obtain ⟨o, vs, h1, h2, h3⟩ := O.heldOk _ z
  have := R.base _ _ h1
  rw [hI] at this; cases this
  rw [hd] at h2; cases h2; cases h3
theorem vL (O : C.Ok) (I a : Addr) (xs : List V) : It C k I xs (fun σ => σ a = some (.list xs)) (fun i h => h.IsListIter I a i) where
 frame := fun i h h' st kI _ => st.at kI
 live := fun i h ⟨o, ho, hc, hd⟩ => ⟨o, ho, (fun ⟨_, _, _, h2, _⟩ => by rw [hd] at h2; cases h2), (fun v h2 => by rw [hd] at h2; cases h2)⟩
 flds := fun i h ⟨o, ho, hc, hd⟩ o' ho' es ep z => by rw [ho] at ho'; cases ho'; rw [hd] at z; cases z
 next := fun A σ s i v Q E ao R inv st hv hQ => by
  obtain ⟨_, ws, h1, h2⟩ := R.view a _ inv
  obtain ⟨w, hw, hr⟩ := h2.get hv
  refine wpAny_pyNext_list_item st h1.isList (x := w) (by simpa using hw) fun h' st' hs' => hQ w h' s.toks (hr.keep ?_) st' hs'.extBut
  obtain ⟨o, ho, hc, hd⟩ := st
  exact fun b ob e ht => hs'.extBut b ob (by rintro rfl; rw [ho] at e; cases e; obtain ⟨_, _, _, h2, _⟩ := ht; rw [hd] at h2; cases h2) e
 done := fun A σ s Q E ao R inv st hQ => by
  obtain ⟨_, ws, h1, h2⟩ := R.view a _ inv
  obtain ⟨oI, hoI, _, hdI⟩ := id st
  exact l9 (ao.hd O R) st h1.isList (by have := h2.length; simp [this]) (ao.ne O R hoI hdI) fun h' hx => hQ h' s.toks hx
 self := fun A s i Q E st q => wpAny_pyIter_listiter st q
 own := fun A s i t w Q E ⟨o, ho, hc, hd⟩ q => cF ho hc (by decide) q
theorem sh (O : C.Ok) (I : Addr) : It C k I (C.ns.map .int) (fun _ => True) (fun i h => h.IsListIter I C.aS i) where
 frame := fun i h h' st kI _ => st.at kI
 live := fun i h ⟨o, ho, hc, hd⟩ => ⟨o, ho, (fun ⟨_, _, _, h2, _⟩ => by rw [hd] at h2; cases h2), (fun v h2 => by rw [hd] at h2; cases h2)⟩
 flds := fun i h ⟨o, ho, hc, hd⟩ o' ho' es ep z => by rw [ho] at ho'; cases ho'; rw [hd] at z; cases z
 next := fun A σ s i v Q E ao R inv st hv hQ => by
  obtain ⟨ws, h1, h2, h3⟩ := O.script
  rw [List.getElem?_map] at hv
  obtain ⟨n, hn, rfl⟩ := Option.map_eq_some_iff.mp hv
  obtain ⟨t, ht⟩ := h3 i n hn
  refine wpAny_pyNext_list_item st (h1.at fun o e => R.base _ _ e) (x := .int n t) (by simpa using ht) fun h' st' hs' => hQ _ h' s.toks (.int n t) st' hs'.extBut
 done := fun A σ s Q E ao R inv st hQ => by
  obtain ⟨ws, h1, h2, h3⟩ := O.script
  obtain ⟨oI, hoI, _, hdI⟩ := id st
  exact l9 (ao.hd O R) st (h1.at fun o e => R.base _ _ e) (by simp at h2; simp [h2]) (ao.ne O R hoI hdI) fun h' hx => hQ h' s.toks hx
 self := fun A s i Q E st q => wpAny_pyIter_listiter st q
 own := fun A s i t w Q E ⟨o, ho, hc, hd⟩ q => cF ho hc (by decide) q
theorem xA (O : C.Ok) (I a : Addr) (vs : List V) (ws : List Value) (hb : z0 ws = true) : It C k I vs (fun _ => True) (fun i h => h.IsTupleIter I a i ∧ h.IsTuple a ws.toArray ∧ VRels C.aS h vs ws) where
 frame := fun i h h' st kI kt => ⟨st.1.at kI, let ⟨o, ho, hc, n, r⟩ := st.2.1; ⟨o, kt a o ho ⟨hc, _, n, r, hb⟩, hc, n, r⟩, st.2.2.keep kt⟩
 live := fun i h ⟨⟨o, ho, hc, hd⟩, _⟩ => ⟨o, ho, (fun ⟨_, _, _, h2, _⟩ => by rw [hd] at h2; cases h2), (fun v h2 => by rw [hd] at h2; cases h2)⟩
 flds := fun i h ⟨⟨o, ho, hc, hd⟩, _⟩ o' ho' es ep z => by rw [ho] at ho'; cases ho'; rw [hd] at z; cases z
 next := fun A σ s i v Q E ao R inv st hv hQ => by
  obtain ⟨w, hw, hr⟩ := st.2.2.get hv
  obtain ⟨o, ho, hc, hd⟩ := id st.1
  have kt : ∀ h', Heap.SameBut I s.heap h' → a0 s.heap h' := fun h' hs' b ob e ht => hs'.extBut b ob (by rintro rfl; rw [ho] at e; cases e; obtain ⟨_, _, _, h2, _⟩ := ht; rw [hd] at h2; cases h2) e
  refine wpAny_pyNext_tuple_item st.1 st.2.1 (x := w) (by simpa using hw) fun h' st' hs' => hQ w h' s.toks (hr.keep (kt h' hs')) ⟨st', ?_, st.2.2.keep (kt h' hs')⟩ hs'.extBut
  obtain ⟨o, ho, hc, n, r⟩ := st.2.1
  exact ⟨o, kt h' hs' a o ho ⟨hc, _, n, r, hb⟩, hc, n, r⟩
 done := fun A σ s Q E ao R inv st hQ => j4 (ao.hd O R) st.1 st.2.1 (by have := st.2.2.length; simp [this]) (let ⟨_, hoI, _, hdI⟩ := st.1; ao.ne O R hoI hdI) fun h' hx => hQ h' s.toks hx
 self := fun A s i Q E st q => wpAny_pyIter_tupleiter st.1 q
 own := fun A s i t w Q E ⟨⟨o, ho, hc, hd⟩, _⟩ q => cF ho hc (by decide) q
noncomputable def kg (x : Str) : List V := x.cps.toList.map fun c => .str ⟨#[c]⟩
theorem ub (hz : C.held = none) (I : Addr) (cls : String) (x : Str) (t : Tok) (hcls : cls = "str_ascii_iterator" ∨ cls = "str_iterator") : It C k I (kg x) (fun _ => True) (fun i h => h.IsStrIter I cls x t i) where
 frame := fun i h h' ⟨o, ho, r⟩ kI _ => ⟨o, kI o ho, r⟩
 live := fun i h ⟨o, ho, hc, hd⟩ => ⟨o, ho, (fun ⟨_, _, _, h2, _⟩ => by rw [hd] at h2; cases h2), (fun v h2 => by rw [hd] at h2; cases h2)⟩
 flds := fun i h ⟨o, ho, hc, hd⟩ o' ho' es ep z => by rw [ho] at ho'; cases ho'; rw [hd] at z; cases z
 next := fun A σ s i v Q E ao R inv st hv hQ => by
  unfold kg at hv
  rw [List.getElem?_map] at hv
  obtain ⟨c, hc, rfl⟩ := Option.map_eq_some_iff.mp hv
  rcases hcls with rfl | rfl
  ·exact wpAny_pyNext_ascii_item st (c := c) (by simpa using hc) fun h' st' hs' => hQ _ h' _ (.str _ _) st' hs'.extBut
  ·exact wpAny_pyNext_wide_item st (c := c) (by simpa using hc) fun h' st' hs' => hQ _ h' _ (.str _ _) st' hs'.extBut
 done := fun A σ s Q E ao R inv st hQ => by
  rcases hcls with rfl | rfl
  ·exact wpAny_pyNext_ascii_end (ao.none hz) st (by simp [kg]) fun h' hx => hQ h' s.toks hx
  ·exact wpAny_pyNext_wide_end (ao.none hz) st (by simp [kg]) fun h' hx => hQ h' s.toks hx
 self := fun A s i Q E st q => by
  rcases hcls with rfl | rfl
  ·exact wpAny_pyIter_striter_ascii st q
  ·exact wpAny_pyIter_striter_wide st q
 own := fun A s i t w Q E ⟨o, ho, hc, hd⟩ q => by
  rcases hcls with rfl | rfl
  ·exact cF ho hc (by decide) q
  ·exact cF ho hc (by decide) q
theorem vN (hz : C.held = none) (I d : Addr) (kvs : List (Str × V)) (ep : Nat) : It C k I (kvs.map fun p => .str p.1) (fun σ => σ d = some (.dict kvs ep)) (fun i h => h.IsKeyIter I d i kvs.length ep) where
 frame := fun i h h' st kI _ => st.at kI
 live := fun i h ⟨o, ho, hc, hd⟩ => ⟨o, ho, (fun ⟨_, _, _, h2, _⟩ => by rw [hd] at h2; cases h2), (fun v h2 => by rw [hd] at h2; cases h2)⟩
 flds := fun i h ⟨o, ho, hc, hd⟩ o' ho' es ep z => by rw [ho] at ho'; cases ho'; rw [hd] at z; cases z
 next := fun A σ s i v Q E ao R inv st hv hQ => by
  obtain ⟨_, kws, h1, h2⟩ := R.view d _ inv
  rw [List.getElem?_map] at hv
  obtain ⟨⟨key, u⟩, hku, rfl⟩ := Option.map_eq_some_iff.mp hv
  obtain ⟨w, hw, _⟩ := PRel.get h2 hku
  have st' : s.heap.IsKeyIter I d i kws.length ep := by rw [← h2.length]; exact st
  refine wpAny_pyNext_dict_item st' h1 hw fun kv h' hkey hit' hs' => hQ kv h' s.toks ?_ (by rw [h2.length]; exact hit') hs'.extBut
  cases kv with
  | str y t =>
   have : y = key := by simpa [strKind, Value.isStrOf] using hkey
   subst this; exact .str _ _
  | _ => simp [strKind, Value.isStrOf] at hkey
 done := fun A σ s Q E ao R inv st hQ => by
  obtain ⟨_, kws, h1, h2⟩ := R.view d _ inv
  have e : (kvs.map fun p : Str × V => V.str p.1).length = kws.length := by rw [List.length_map, h2.length]
  have st' : s.heap.IsKeyIter I d kws.length kws.length ep := by rw [← e]; simpa using st
  exact wpAny_pyNext_dict_end (ao.none hz) st' h1 (by simp) fun h' hx => hQ h' s.toks hx
 self := fun A s i Q E st q => wpAny_pyIter_keyiter st q
 own := fun A s i t w Q E ⟨o, ho, hc, hd⟩ q => cF ho hc (by decide) q
noncomputable def dk (a : Int) (n : Nat) : List V := (List.range n).map fun (i : Nat) => .int (a + i)
theorem uc (hz : C.held = none) (I : Addr) (a : Int) (n : Nat) : It C k I (dk a n) (fun _ => True) (fun i h => IsRangeIter h I (a + (i : Nat) * 1) ((n : Int) - (i : Nat)) 1) where
 frame := fun i h h' st kI _ => kI _ st
 live := fun i h st => ⟨_, st, fun ⟨_, _, _, h2⟩ => by simp at h2, fun v h2 => by simp at h2⟩
 flds := fun i h st o' ho' es ep z => by rw [st] at ho'; cases ho'; cases z
 next := fun A σ s i v Q E ao R inv st hv hQ => by
  unfold dk at hv
  rw [List.getElem?_map] at hv
  obtain ⟨j, hj, rfl⟩ := Option.map_eq_some_iff.mp hv
  have hjn := List.getElem?_eq_some_iff.mp hj
  obtain ⟨hlt, hji⟩ := hjn
  simp at hji hlt
  subst hji
  refine wpAny_pyNext_range_item st (Int.sub_pos_of_lt (Int.ofNat_lt.mpr hlt)) fun h' hit' hs' => ?_
  have e1 : a + ((i + 1 : Nat) : Int) * 1 = a + (i : Int) * 1 + 1 := by rw [Int.mul_one, Int.mul_one, Int.add_assoc]; rfl
  have e2 : (n : Int) - ((i + 1 : Nat) : Int) = (n : Int) - (i : Int) - 1 := by rw [Int.sub_sub]; rfl
  refine hQ _ h' _ ?_ (by rw [e1, e2]; exact hit') hs'.extBut
  rw [Int.mul_one]; exact .int _ _
 done := fun A σ s Q E ao R inv st hQ => wpAny_pyNext_range_end (ao.none hz) st (by simp [dk]) fun h' hx => hQ h' s.toks hx
 self := fun A s i Q E st q => wpAny_pyIter_rangeiter st q
 own := fun A s i t w Q E st q => cF st rfl (by decide) q
noncomputable def jR (a : Addr) (σ : ag) (Q : List V → (ag → Prop) → ag → Prop) (o : Option AObj) : Prop := match o with
 | some (.list xs) => Q xs (fun σ => σ a = some (.list xs)) σ
 | some (.dict kvs ep) => Q (kvs.map fun p => .str p.1) (fun σ => σ a = some (.dict kvs ep)) σ
 | _ => False
noncomputable def gW (ns : List Int) : V → ag → (List V → (ag → Prop) → ag → Prop) → Prop
 | .str x, σ, Q => Q (kg x) (fun _ => True) σ
 | .tup vs, σ, Q => Q vs (fun _ => True) σ
 | .script, σ, Q => Q (ns.map .int) (fun _ => True) σ
 | .ref a, σ, Q => jR a σ Q (σ a)
 | _, _, _ => False
noncomputable def gB (ns : List Int) (T : ET) : IT := fun m σ Q => T m σ fun v σ' => gW ns v σ' Q
theorem bC (O : C.Ok) (hz : C.held = none) {e : Expr} {T : ET} (he : HE C sc k e T) : HI C sc k e (gB C.ns T) := by
 refine ⟨?_⟩; intro env A s m σ Q P E en ao R F q hP
 refine he.run env A s m σ _ _ E en ao R F q fun v w σ₁ s₁ hv R₁ S₁ q₁ => ?_
 have fr : s.heap.objs.size ≤ s₁.heap.objs.size := S₁.size
 have hn := R₁.freshNone (bw s₁.heap)
 have Rp : ∀ o, RelG C σ₁ { s₁ with heap := s₁.heap.push o } := fun o => R₁.grow (tk := s₁.toks) a4
 have Sp : ∀ o, Step no σ σ₁ s.heap (s₁.heap.push o) := fun o => S₁.trans .push
 cases hv with
 | none => exact q₁.elim
 | bool => exact q₁.elim
 | int => exact q₁.elim
 | ty => exact q₁.elim
 | str x t =>
  cases ha : x.cps.all (· < 128)
  ·exact wpAny_pyIter_wide ha (hP _ _ _ _ σ₁ _ (ub hz _ "str_iterator" x t (.inr rfl)) ⟨_, Heap.get?_push_size _ rfl, rfl, rfl⟩ fr hn (Rp _) (Sp _) q₁)
  ·exact wpAny_pyIter_ascii ha (hP _ _ _ _ σ₁ _ (ub hz _ "str_ascii_iterator" x t (.inl rfl)) ⟨_, Heap.get?_push_size _ rfl, rfl, rfl⟩ fr hn (Rp _) (Sp _) q₁)
 | script =>
  obtain ⟨ws, h1, h2, h3⟩ := O.script
  exact wpAny_pyIter_list (h1.at fun o e => R₁.base _ _ e) (hP _ _ _ _ σ₁ _ (sh O _) ⟨_, Heap.get?_push_size _ rfl, rfl, rfl⟩ fr hn (Rp _) (Sp _) q₁)
 | tup ht hvs hb =>
  exact wpAny_pyIter_tuple ht (hP _ _ _ _ σ₁ _ (xA O _ _ _ _ hb) ⟨⟨_, Heap.get?_push_size _ rfl, rfl, rfl⟩, ht.push _, hvs.keep fun _ _ e _ => a4 _ _ e⟩ fr hn (Rp _) (Sp _) q₁)
 | ref a =>
  replace q₁ : jR a σ₁ Q (σ₁ a) := q₁
  cases hx : σ₁ a with
  | none => rw [hx] at q₁; exact False.elim q₁
  | some o =>
  rw [hx] at q₁
  cases o <;> first | exact False.elim q₁ | skip
  ·rename_i xs
   obtain ⟨_, ws, h1, h2⟩ := R₁.view a _ hx
   exact wpAny_pyIter_list h1.isList (hP _ _ _ _ σ₁ _ (vL O _ a xs) ⟨_, Heap.get?_push_size _ rfl, rfl, rfl⟩ fr hn (Rp _) (Sp _) q₁)
  ·rename_i kvs ep
   obtain ⟨_, kws, h1, h2⟩ := R₁.view a _ hx
   refine wpAny_pyIter_dict (O.noMods (R₁.apart a (by rw [hx]; simp))) h1 (hP _ _ _ _ σ₁ _ (vN hz _ a kvs ep) ⟨_, Heap.get?_push_size _ rfl, rfl, by rw [← h2.length]; rfl⟩ fr hn (Rp _) (Sp _) q₁)
noncomputable def jO : List V → ag → (List V → (ag → Prop) → ag → Prop) → Prop
 | v :: r, σ, Q => isI v fun a => match r with
  | [] => (-(2 ^ 62) ≤ a ∧ a < 2 ^ 62) ∧ Q (dk 0 a.toNat) (fun _ => True) σ
  | u :: r => on1 (u :: r) fun u => isI u fun b => (-(2 ^ 62) ≤ a ∧ a < 2 ^ 62 ∧ -(2 ^ 62) ≤ b ∧ b < 2 ^ 62) ∧ Q (dk a (b - a).toNat) (fun _ => True) σ
 | _, _, _ => False
noncomputable def eY (L : LT) : IT := fun m σ Q => L m σ fun vs σ' => jO vs σ' Q
theorem uR (O : C.Ok) (hz : C.held = none) {np pos : Pos} {es : List Expr} {L : LT} (hl : HL C sc k es L) (hp : aD es = true)
  (hn : sc.names.lookup (Str.ofString "range") = some .globalImplicit) (hg : C.mg (Str.ofString "range") = Option.none) (hb : C.mb (Str.ofString "range") = some (.type "range")) :
  HI C sc k (.Call (.Name (Str.ofString "range") np) es [] pos) (eY L) := by
 refine ⟨?_⟩; intro env A s m σ Q P E en ao R F q hP
 refine wpAny_Call_NameR (Calls.Name_function_global en.k (en.of hn) (Calls.loadGlobal_builtin (mg := C.mg) (mb := C.mb) (by rw [en.globals]; exact O.g.keeps R.base) hg (by rw [en.builtins]; exact O.b.keeps R.base) hb ?_) (by decide))
 refine callWith_type (a9 hp) (aY hp (hl.run env A s m σ pos _ _ E en ao R F q fun vs ws σ₁ s₁ hv R₁ S₁ q₁ => ?_))
 have fr : s.heap.objs.size ≤ s₁.heap.objs.size + 1 := Nat.le_succ_of_le S₁.size
 have hσ : σ₁ (s₁.heap.objs.size + 1) = Option.none := R₁.freshNone (aB (Nat.le_succ _))
 have go : ∀ (a b : Int) (o : Obj) (tk : Nat) (t u v : Tok), -(2 ^ 62) ≤ a → a < 2 ^ 62 → -(2 ^ 62) ≤ b → b < 2 ^ 62 → o = { cls := .type "range", data := .fields #[.int a t, .int b u, .int 1 v] } → Q (dk a (b - a).toNat) (fun _ => True) σ₁ →
   wpAny (model C.prog C.w) A (pyIter (.ref s₁.heap.objs.size)) P E { s₁ with heap := s₁.heap.push o, toks := tk } := by
  rintro a b o tk t u v h1 h2 h3 h4 rfl q₁
  refine wpAny_pyIter_range (IsRange.new ..) (small_one h1 h2 h3 h4) ?_
  have hsz : Builtin.Range.rangeSize a b 1 = ((b - a).toNat : Int) := by rw [rangeSize_one]; split <;> omega
  have hit := uc (C := C) (k := k) hz (s₁.heap.objs.size + 1) a (b - a).toNat
  have R₂ : RelG C σ₁ { s₁ with heap := (s₁.heap.push { cls := .type "range", data := .fields #[.int a t, .int b u, .int 1 v] }).push { cls := .type "range_iterator", data := .fields #[rawInt a, rawInt (Builtin.Range.rangeSize a b 1), rawInt 1] }, toks := tk } :=
   R₁.grow fun _ _ e => a4 _ _ (a4 _ _ e)
  have e := Heap.get?_push_size (s₁.heap.push { cls := .type "range", data := .fields #[.int a t, .int b u, .int 1 v] }) (o := { cls := .type "range_iterator", data := .fields #[rawInt a, rawInt (Builtin.Range.rangeSize a b 1), rawInt 1] }) rfl
  rw [Heap.size_push] at e
  have this := hP _ _ _ _ σ₁ _ hit (by
    show IsRangeIter ((s₁.heap.push { cls := .type "range", data := .fields #[.int a t, .int b u, .int 1 v] }).push { cls := .type "range_iterator", data := .fields #[rawInt a, rawInt (Builtin.Range.rangeSize a b 1), rawInt 1] }) _ _ _ _
    unfold IsRangeIter
    rw [e, hsz]; simp) fr hσ R₂ ((S₁.trans .push).trans .push) q₁
  rw [Heap.size_push]
  exact this
 show wpAny _ A (PySem.call (.type "range") ([] ++ ws)) _ _ _
 rw [List.nil_append]
 cases hv with
 | nil => exact False.elim q₁
 | cons h1 r =>
  obtain ⟨n, rfl, q₂⟩ := isI.elim q₁
  clear q₁
  cases h1 with | int _ t =>
  cases r with
  | nil =>
   have q₁ := q₂
   refine call_range_1 (go 0 _ _ _ _ _ _ (by decide) (by decide) q₁.1.1 q₁.1.2 rfl ?_)
   rw [Int.sub_zero]; exact q₁.2
  | cons h2 r =>
   obtain ⟨u, e, q₃⟩ := on1.elim q₂
   cases e
   obtain ⟨b, rfl, q₁⟩ := isI.elim q₃
   cases r with | nil => cases h2 with | int _ u =>
   exact call_range_2 (go _ _ _ _ _ _ _ q₁.1.1 q₁.1.2.1 q₁.1.2.2.1 q₁.1.2.2.2 rfl q₁.2)
end
end Mine
end
noncomputable section
set_option tactic.hygienic false
namespace Mine
open PySem
noncomputable def lG (cells : List (Str × Addr)) : List (Str × NameKind) → List (Str × Addr) → List (Str × Addr)
 | [], acc => acc
 | (n, q) :: r, acc => if q == .free then lG cells r ((n, (cells.lookup n).getD 0) :: acc) else lG cells r acc
theorem kT {env : Env} {scope : Scope} (h : ∀ p ∈ scope.names, p.2 = .free → ∃ c, env.cells.lookup p.1 = some c) : closureFor scope env = pure (lG env.cells scope.names []) := by
 unfold closureFor
 have key : ∀ (l : List (Str × NameKind)) (acc : List (Str × Addr)), (∀ p ∈ l, p.2 = .free → ∃ c, env.cells.lookup p.1 = some c) →
   (forIn l acc fun p r => (if (p.2 == NameKind.free) = true then do let c ← cellOf env p.1; pure (ForInStep.yield ((p.1, c) :: r)) else pure (ForInStep.yield r) : Sem (ForInStep (List (Str × Addr))))) = pure (lG env.cells l acc) := by
  intro l
  induction l with
  | nil => intro acc _; rfl
  | cons p r ih =>
   intro acc hp
   rw [List.forIn_cons]
   obtain ⟨n, q⟩ := p
   unfold lG
   cases hq : (q == NameKind.free) with
   | true =>
    obtain ⟨c, hc⟩ := hp (n, q) (.head _) (by simpa using hq)
    simp only [cellOf, hc, if_true, pure_bind, Option.getD_some]
    exact ih _ fun p hp' => hp p (.tail _ hp')
   | false =>
    simp only [Bool.false_eq_true, if_false, pure_bind]
    exact ih _ fun p hp' => hp p (.tail _ hp')
 have := key scope.names [] h
 simpa using congrArg (fun t => t >>= fun cs => (pure cs : Sem _)) this
theorem kU {cells : List (Str × Addr)} : ∀ (l : List (Str × NameKind)) (acc : List (Str × Addr)), (∀ p ∈ l, p.2 = .free → ∃ c, cells.lookup p.1 = some c) → ∀ n,
  ((lG cells l acc).lookup n = if (n, NameKind.free) ∈ l then cells.lookup n else acc.lookup n)
 | [], acc, _, n => by simp [lG]
 | (y, q) :: r, acc, h, n => by
  unfold lG
  have ih := fun acc => kU r acc (fun p hp => h p (.tail _ hp)) n
  cases hq : (q == NameKind.free) with
  | true =>
   have hq' : q = .free := by simpa using hq
   obtain ⟨c, hc⟩ := h (y, q) (.head _) hq'
   rw [if_pos rfl, ih]
   subst hq'
   by_cases hr : (n, NameKind.free) ∈ r
   ·simp [hr]
   ·rw [if_neg hr]
    by_cases hy : n = y
    ·subst hy; simp [hc]
    ·have : (n == y) = false := by simp [hy]
     simp [hr, hy, List.lookup_cons, this]
  | false =>
   have hq' : q ≠ .free := by simpa using hq
   rw [if_neg Bool.false_ne_true, ih]
   have : ((n, NameKind.free) ∈ (y, q) :: r) ↔ (n, NameKind.free) ∈ r := by simp [Ne.symm hq']
   simp [this]
theorem kW {cells : List (Str × Addr)} (hd : cells.Pairwise fun x y => x.2 ≠ y.2) : ∀ (l : List (Str × NameKind)) (acc : List (Str × Addr)), (∀ p ∈ l, p.2 = .free → ∃ c, cells.lookup p.1 = some c) → (l.map (·.1)).Nodup →
  (∀ p ∈ acc, cells.lookup p.1 = some p.2 ∧ p.1 ∉ l.map (·.1)) → acc.Pairwise (fun x y => x.2 ≠ y.2) → (lG cells l acc).Pairwise fun x y => x.2 ≠ y.2
 | [], acc, _, _, _, h => by simpa [lG] using h
 | (y, q) :: r, acc, h, hn, ha, hp => by
  unfold lG
  rw [List.map_cons, List.nodup_cons] at hn
  cases hq : (q == NameKind.free) with
  | true =>
   obtain ⟨c, hc⟩ := h (y, q) (.head _) (by simpa using hq)
   rw [if_pos rfl]
   refine kW hd r _ (fun p hp => h p (.tail _ hp)) hn.2 ?_ ?_
   ·intro p hp'
    rcases List.mem_cons.mp hp' with rfl | hp'
    ·exact ⟨by simp [hc], hn.1⟩
    ·exact ⟨(ha p hp').1, fun z => (ha p hp').2 (.tail _ z)⟩
   ·refine List.pairwise_cons.mpr ⟨fun p hp' e => ?_, hp⟩
    rw [hc] at e
    simp only [Option.getD_some] at e
    have := name_of_addr hd (mem_of_lookup hc) (mem_of_lookup (e ▸ (ha p hp').1))
    exact (ha p hp').2 (by rw [← this]; exact .head _)
  | false =>
   rw [if_neg Bool.false_ne_true]
   exact kW hd r acc (fun p hp => h p (.tail _ hp)) hn.2 (fun p hp' => ⟨(ha p hp').1, fun z => (ha p hp').2 (.tail _ z)⟩) hp
noncomputable def fF (sc : Scope) (n : Str) (q : NameKind) : NameKind := if (q == .free && sc.kind == .function && sc.names.lookup n == some .cell) then .cell else q
noncomputable def fG (sc scope : Scope) : Scope := { scope with names := scope.names.map fun p => (p.1, fF sc p.1 p.2) }
theorem pP {cs : Scope} {env : Env} : relabel cs env = fG env.scope cs := by
 unfold relabel fG Env.kindOf fF
 congr 1
 refine List.map_congr_left fun p _ => ?_
 obtain ⟨n, q⟩ := p
 dsimp only
 split <;> rfl
theorem eV {sc : Scope} : ∀ (l : List (Str × NameKind)) (n : Str), (l.map fun p => (p.1, fF sc p.1 p.2)).lookup n = (l.lookup n).map (fF sc n)
 | [], n => rfl
 | (y, q) :: r, n => by
  rw [List.map_cons, List.lookup_cons, List.lookup_cons]
  by_cases hy : n = y
  ·subst hy; simp
  ·have hb : (n == y) = false := by simp [hy]
   simp only [hb]
   exact eV r n
theorem rN {sc : Scope} {l : List (Str × NameKind)} {n : Str} (h : l.lookup n = some .free) : (l.map fun p => (p.1, fF sc p.1 p.2)).lookup n = some .cell ∨ (l.map fun p => (p.1, fF sc p.1 p.2)).lookup n = some .free := by
 rw [eV, h, Option.map_some]
 unfold fF
 split
 ·exact .inl rfl
 ·exact .inr rfl
theorem rO {sc : Scope} {l : List (Str × NameKind)} {n : Str} (h : (l.map fun p => (p.1, fF sc p.1 p.2)).lookup n = some .cell) : (n, NameKind.free) ∈ l ∨ (n, NameKind.cell) ∈ l := by
 rw [eV] at h
 obtain ⟨q, hq, e⟩ := Option.map_eq_some_iff.mp h
 unfold fF at e
 split at e
 ·rename_i hc
  have : q = .free := by simp at hc; exact hc.1.1
  subst this
  exact .inl (mem_of_lookup hq)
 ·subst e; exact .inr (mem_of_lookup hq)
theorem mY {sc : Scope} {l : List (Str × NameKind)} {n : Str} (h : (l.map fun p => (p.1, fF sc p.1 p.2)).lookup n = some .free) : (n, NameKind.free) ∈ l := by
 rw [eV] at h
 obtain ⟨q, hq, e⟩ := Option.map_eq_some_iff.mp h
 unfold fF at e
 split at e
 ·cases e
 ·subst e; exact mem_of_lookup hq
section
variable {C : Cx} {sc : Scope} {k : Nat}
structure HTs (C : Cx) (sc : Scope) (k : Nat) (ifs : List Expr) (B : BT) : Prop where
 run : ∀ (env : Env) (A : Around) (s : Shared) (m : aU) (σ : ag) (Q : Bool → ag → Prop) (P : Bool → Shared → Prop) (E : Value → Shared → Prop),
  EnvOk env sc → AOk C A k → RelG C σ s → FrameRel C env m σ s.heap → B m σ Q →
  (∀ b σ' s', RelG C σ' s' → Step no σ σ' s.heap s'.heap → Q b σ' → P b s') →
  wpAny (model C.prog C.w) A (forIn ifs true fun c r => if r = true then do let ok ← isTrue c env (eval c env); pure (ForInStep.yield ok) else pure (ForInStep.yield r)) P E s
theorem nH : HTs C sc k [] tT := ⟨fun _ _ s _ σ _ _ _ _ _ R _ q hP => wpAny_tests_nil (hP true σ s R Step.refl q)⟩
theorem rf {c : Expr} {B : BT} (h : HB C sc k c B) : HTs C sc k [c] B := ⟨fun env A s m σ Q P E en ao R F q hP => wpAny_tests_one (h.run env A s m σ Q P E en ao R F q hP)⟩
noncomputable def only (fv : List String) (m : aU) : aU := fun x => if x ∈ fv then m x else Option.none
noncomputable def dN (g : Tgt) (inv : ag → Prop) (B : BT) (T : ET) (m : aU) : List V → List V → ag → (List V → ag → Prop) → Prop
 | [], acc, σ, Q => inv σ ∧ Q acc σ
 | v :: r, acc, σ, Q => inv σ ∧ ∃ m', eE g v m = some m' ∧ B m' σ fun b σ₁ => if b then T m' σ₁ fun y σ₂ => acc.length < 1048576 ∧ dN g inv B T m r (acc ++ [y]) σ₂ Q else dN g inv B T m r acc σ₁ Q
noncomputable def jq (fv : List String) (g : Tgt) (I : IT) (B : BT) (T : ET) : ET := fun m σ Q => I m σ fun items inv σ' => dN g inv B T (only fv m) items [] σ' fun ys σ'' => cJ ys σ'' Q
noncomputable def Tgt.names : Tgt → List String
 | .name x => [x]
 | .tup xs => xs
theorem jr : ∀ (xs : List String) (vs : List V) (m : aU) (y : String), y ∉ xs → aG xs vs m y = m y
 | [], _, _, _, _ => by simp [aG]
 | x :: xs, [], _, _, _ => by simp [aG]
 | x :: xs, v :: vs, m, y, h => by
  simp only [aG]
  rw [jr xs vs _ y (fun z => h (.tail _ z))]
  exact fJ (fun z => h (by rw [z]; exact .head _))
theorem oP {g : Tgt} {v : V} {m m' : aU} (h : eE g v m = some m') {y : String} (hy : y ∉ g.names) : m' y = m y := by
 cases g with
 | name x => cases h; exact fJ (fun z => hy (by simp [Tgt.names, z]))
 | tup xs =>
  cases v <;> simp [eE] at h
  obtain ⟨_, rfl⟩ := h
  exact jr _ _ _ _ hy
theorem FrameRel.weaken {env : Env} {m m' : aU} {σ : ag} {h : Heap} (F : FrameRel C env m' σ h) (hw : ∀ x v, m x = some v → m' x = some v) : FrameRel C env m σ h :=
 ⟨let ⟨mm, h1, h2⟩ := F.ns; ⟨mm, h1, fun x v e q => h2 x v (hw x v e) q⟩, fun x v e => F.cel x v (hw x v e), F.cells, F.sepL, F.baseL, F.baseC, F.dist, F.has⟩
theorem nh {A : Around} {R : Result → Shared → Prop} {s : Shared} {elt target iter : Expr} {ifs : List Expr} {scope : Scope} {pos : Pos} {it acc : Value} {env : Env} (I : Nat → Shared → Prop)
  (turn : ∀ n s, I n s → wpAny (model C.prog C.w) A (pyNext it) (fun r s₁ => match r with
   | Option.none => R (.ok .next) s₁
   | some v => wpAny (model C.prog C.w) A (letOwnedTupleGo target it v) (fun _ s₁' => wpAny (model C.prog C.w) A (assign target env v) (fun _ s₂ =>
     wpAny (model C.prog C.w) A (forIn ifs true fun c r => if r = true then do let ok ← isTrue c env (eval c env); pure (ForInStep.yield ok) else pure (ForInStep.yield r)) (fun ok s₃ =>
      if ok = true then wpAny (model C.prog C.w) A (eval elt env) (fun x s₄ =>
       wpAny (model C.prog C.w) A (call (.builtin "list.append") [acc, x]) (fun _ s₅ => ∃ m, m < n ∧ I m s₅) (notedBy (model C.prog C.w) A env fun e s' => R (.error e) s') s₄) (notedBy (model C.prog C.w) A env fun e s' => R (.error e) s') s₃
      else ∃ m, m < n ∧ I m s₃) (notedBy (model C.prog C.w) A env fun e s' => R (.error e) s') s₂) (notedBy (model C.prog C.w) A env fun e s' => R (.error e) s') s₁') (notedBy (model C.prog C.w) A env fun e s' => R (.error e) s') s₁) (notedBy (model C.prog C.w) A env fun e s' => R (.error e) s') s)
  (n : Nat) (h : I n s) : codeAny (model C.prog C.w) A (.compLoop (.ListComp elt [⟨target, iter, ifs, 0⟩] scope pos) 0 it acc env) R s := by
 refine codeAny_loop rfl I (fun n s hI => ?_) n h
 show wpAny _ A ((compTurn (.ListComp elt [⟨target, iter, ifs, 0⟩] scope pos) 0 it acc env).onRaise (fun x => do noteFrame x env; theTreesLotGoes x)) _ _ s
 refine wpAny_noted ?_
 rw [compTurn_list]
 refine wpAny_bind (wpAny_standAt (wpAny_bind (wpAny_mono (turn n s hI) (fun r s₁ h₁ => ?_) fun _ _ h' => h')))
 cases r with
 | none => exact wpAny_pure h₁
 | some v =>
  refine wpAny_bind (wpAny_mono h₁ (fun _ s₁' h₁' => ?_) fun _ _ h' => h')
  refine wpAny_bind (wpAny_mono h₁' (fun _ s₂ h₂ => wpAny_bind (wpAny_mono h₂ (fun ok s₃ h₃ => ?_) fun _ _ h' => h')) fun _ _ h' => h')
  cases ok with
  | false => exact wpAny_pure ⟨rfl, h₃⟩
  | true => exact wpAny_bind (wpAny_bind (wpAny_mono h₃ (fun x s₄ h₄ => wpAny_bind (wpAny_mono h₄ (fun _ s₅ h₅ => wpAny_pure (wpAny_pure ⟨rfl, h₅⟩)) fun _ _ h' => h')) fun _ _ h' => h'))
structure CompOk (sc cs : Scope) (fv : List String) (g : Tgt) : Prop where
 kind : cs.kind = .function
 nocell : ∀ y ∈ cs.names, y.2 ≠ .cell
 names : ∀ y ∈ cs.names, y.2 = .local → cs.names.lookup y.1 = some .local
 nodup : (cs.names.map (·.1)).Nodup
 frees : ∀ p ∈ cs.names, p.2 = .free → ∃ x ∈ fv, Str.ofString x = p.1
 frs : ∀ x ∈ fv, (Str.ofString x, NameKind.free) ∈ cs.names ∧ (sc.names.lookup (Str.ofString x) = some .cell ∨ sc.names.lookup (Str.ofString x) = some .free)
 tgt : ∀ x ∈ g.names, x ∉ fv
noncomputable def pv (env : Env) (x : String) : Prop := ∃ c, env.cells.lookup (Str.ofString x) = some c
theorem ex {α : Type} : ∀ {l : List (Str × α)} {n : Str} {c : α}, (l.map (·.1)).Nodup → (n, c) ∈ l → l.lookup n = some c
 | p :: r, n, c, hn, hm => by
  rw [List.map_cons, List.nodup_cons] at hn
  rcases List.mem_cons.mp hm with e | hm
  ·subst e; simp
  ·have : n ≠ p.1 := fun e => hn.1 (e ▸ List.mem_map_of_mem hm)
   rw [List.lookup_cons, show (n == p.1) = false by simp [this]]
   exact ex hn.2 hm
theorem ko {h : Heap} {a : Addr} {xs : Array Value} (hp : h.PlainList a xs) (o : Obj) (e : h.get? a = some o) : ∀ es ep, o.data ≠ .dict es ep := by
 obtain ⟨n, hn⟩ := hp
 rw [hn] at e; cases e
 intro es ep z; cases z
inductive CompInv (C : Cx) (cenv : Env) (σ₂ : ag) (h : Heap) (I H : Addr) (m : aU) (items : List V) (St : Nat → Heap → Prop) (L : List V → List V → ag → Prop) (n : Nat) (s' : Shared) : Prop
 | mk (i : Nat) (ys : List V) (ws : List Value) (σ' : ag) (rest : List V) (e1 : items.drop i = rest) (e2 : i ≤ items.length) (e3 : n = rest.length + 1) (st : St i s'.heap) (hI : σ' I = Option.none) (hD : σ' h.objs.size = Option.none) (R : RelG C σ' s')
   (F : FrameRel C cenv m σ' s'.heap) (hp : s'.heap.PlainList h.objs.size (List.toArray ws)) (hv : VRels C.aS s'.heap ys ws) (hl : ys.length ≤ 1048576) (S : Step (fun b => b = I ∨ b = h.objs.size ∨ b = H) σ₂ σ' h s'.heap) (q : L rest ys σ') : CompInv C cenv σ₂ h I H m items St L n s'
theorem mB {env : Env} {A : Around} {s₀ s₂ : Shared} {m : aU} {σ₀ σ₂ : ag} {elt iter target : Expr} {ifs : List Expr} {cs : Scope} {pos : Pos} {fv : List String} {g : Tgt} {B : BT} {T : ET} {I : Addr} {items : List V} {inv : ag → Prop} {St : Nat → Heap → Prop}
  {Q : List V → ag → Prop} {RR : Value → Addr → Result → Shared → Prop} {E : Value → Shared → Prop}
  (ok : CompOk sc cs fv g) (hhas : ∀ x ∈ fv, pv env x) (ht : HT C (fG sc cs) k true target g) (hB : HTs C (fG sc cs) k ifs B) (hT : HE C (fG sc cs) k elt T)
  (en : EnvOk env sc) (ao : AOk C A k) (R₀ : RelG C σ₀ s₀) (S : Step no σ₀ σ₂ s₀.heap s₂.heap) (R₂ : RelG C σ₂ s₂) (F : FrameRel C env m σ₂ s₂.heap) (hit : It C k I items inv St) (st : St 0 s₂.heap) (hI : s₀.heap.objs.size ≤ I) (hσI : σ₂ I = Option.none)
  (q : dN g inv B T (only fv m) items [] σ₂ Q)
  (hRR : ∀ D C' ys ws mm σ' s', Heap.Ns s'.heap C' mm → s₂.heap.objs.size ≤ C' → s₂.heap.objs.size ≤ D → D ≠ C' → σ' D = Option.none → σ' C' = Option.none → s'.heap.PlainList D (List.toArray ws) → VRels C.aS s'.heap ys ws → RelG C σ' s' →
   ys.length ≤ 1048576 → Step no σ₀ σ' s₀.heap s'.heap → Step (fun b => b = I) σ₂ σ' s₂.heap s'.heap → Q ys σ' → RR (.ref D) C' (.ok .next) s') :
  wpAny (model C.prog C.w) A (newList []) (fun acc s₃ => wpAny (model C.prog C.w) A (newFunctionEnv cs env.globals (lG env.cells cs.names []) [] env.qual Option.none .none (some env)) (fun cenv s₄ =>
   codeAny (model C.prog C.w) A (.compStart (.ListComp elt [⟨target, iter, ifs, 0⟩] cs pos) 0 (.ref I) acc { cenv with scope := relabel cs env }) (RR acc cenv.locals) s₄) E s₃) E s₂ := by
 have hfree : ∀ p ∈ cs.names, p.2 = .free → ∃ c, env.cells.lookup p.1 = some c := fun p hp hq => by
  obtain ⟨x, hx, e⟩ := ok.frees p hp hq
  rw [← e]; exact hhas x hx
 refine wpAny_newObj_type (wpAny_newFunctionEnv ok.nocell (by intro y hy; simp at hy) (fun h₁ hns₁ hsb₁ => ?_) ok.kind)
 dsimp only at hns₁ hsb₁ ⊢
 generalize hH2 : s₂.heap.push { cls := .type "list", dict := Option.none, data := .seq ([] : List Value).toArray } = H2 at hns₁ hsb₁ ⊢
 have hC : H2.objs.size = s₂.heap.objs.size + 1 := by rw [← hH2, Heap.size_push]
 have hDC : s₂.heap.objs.size ≠ H2.objs.size := by rw [hC]; exact Nat.ne_of_lt (Nat.lt_succ_self _)
 have old : ∀ b o, s₂.heap.get? b = some o → h₁.get? b = some o := fun b o e => hsb₁.extBut b o (by rw [hC]; exact Nat.ne_of_lt (Nat.lt_succ_of_lt (Heap.lt_size e))) (Heap.get?_push_of_some _ (hH2 ▸ Heap.get?_push_of_some _ e))
 have hacc : h₁.PlainList s₂.heap.objs.size (List.toArray []) := ⟨_, hsb₁.extBut _ _ hDC (Heap.get?_push_of_some _ (hH2 ▸ Heap.get?_push_size _ rfl))⟩
 have hsz₁ : h₁.objs.size = s₂.heap.objs.size + 2 := by rw [hsb₁.1, Heap.size_push, hC]
 have R₁ : RelG C σ₂ { s₂ with heap := h₁, toks := s₂.toks + ([] : List (Str × Value)).length } := R₂.grow old
 have cl := kU (cells := env.cells) cs.names [] hfree
 have kindF : ∀ x ∈ fv, (fG sc cs).names.lookup (Str.ofString x) = some .cell ∨ (fG sc cs).names.lookup (Str.ofString x) = some .free := fun x hx =>
  rN (ex ok.nodup (ok.frs x hx).1)
 have hLC : (compEnvC cs (lG env.cells cs.names []) H2.objs.size env).locals = H2.objs.size := rfl
 have eS : (compEnvC cs (lG env.cells cs.names []) H2.objs.size env).scope = fG sc cs := by show relabel cs env = _; rw [pP, en.scope]
 have eCl : (compEnvC cs (lG env.cells cs.names []) H2.objs.size env).cells = lG env.cells cs.names [] := rfl
 have enC : EnvOk (compEnvC cs (lG env.cells cs.names []) H2.objs.size env) (fG sc cs) := ⟨eS, ok.kind, en.globals, en.builtins⟩
 have memF : ∀ n c, (lG env.cells cs.names []).lookup n = some c → (n, NameKind.free) ∈ cs.names ∧ env.cells.lookup n = some c := fun n c e => by
  rw [cl n] at e
  split at e
  ·exact ⟨by assumption, e⟩
  ·simp at e
 have kc : ∀ c v, s₂.heap.IsCell c v → h₁.IsCell c v := fun c v ⟨o, ho, hd⟩ => ⟨o, old c o ho, hd⟩
 have F₁ : FrameRel C (compEnvC cs (lG env.cells cs.names []) H2.objs.size env) (only fv m) σ₂ h₁ := by
  refine ⟨⟨_, hns₁, fun x v e kx => ?_⟩, fun x v e => ?_, fun n c e => ?_, R₂.freshNone (aB (by rw [hLC, hC]; exact Nat.le_succ _)), R₂.baseNone (aB (by rw [hLC, hC]; exact Nat.le_succ _)), fun n c e => ?_, ?_, fun n e => ?_⟩
  ·unfold only at e
   split at e
   ·rename_i hx
    rcases kindF x hx with z | z <;> (rw [enC.of z] at kx; cases kx)
   ·cases e
  ·unfold only at e
   split at e
   ·rename_i hx
    rcases F.cel x v e with z | ⟨z, c, w, h1, h2, h3⟩
    ·exfalso
     rcases (ok.frs x hx).2 with y | y <;> (rw [en.of y] at z; cases z)
    ·refine .inr ⟨?_, c, w, ?_, kc _ _ h2, h3.keep fun b o e _ => old b o e⟩
     ·exact (kindF x hx).imp (fun z => enC.of z) fun z => enC.of z
     ·rw [eCl, cl, if_pos (ok.frs x hx).1]; exact h1
   ·cases e
  ·obtain ⟨v, hv⟩ := F.cells n c (memF n c e).2
   exact ⟨v, kc _ _ hv⟩
  ·exact F.baseC n c (memF n c e).2
  ·exact kW F.dist cs.names [] hfree ok.nodup (fun p hp => by cases hp) List.Pairwise.nil
  ·have go : (n, NameKind.free) ∈ cs.names → ∃ c, (lG env.cells cs.names []).lookup n = some c := fun z => by
    obtain ⟨c, hc⟩ := hfree _ z rfl
    exact ⟨c, by rw [cl, if_pos z]; exact hc⟩
   rcases e with e | e
   ·have e' : (fG sc cs).names.lookup n = some .cell := by unfold Env.kindOf at e; rw [eS] at e; exact e
    rcases rO e' with z | z
    ·exact go z
    ·exact absurd rfl (ok.nocell _ z)
   ·have e' : (fG sc cs).names.lookup n = some .free := by unfold Env.kindOf at e; rw [eS] at e; exact e
    exact go (mY e')
 have hI2 : I < s₂.heap.objs.size := by obtain ⟨o, ho, _⟩ := hit.live _ _ st; exact Heap.lt_size ho
 have st₁ : St 0 h₁ := hit.frame _ _ _ st (fun o e => old I o e) (fun b o e _ => old b o e)
 have S₁ : Step (fun b => b = I ∨ b = s₂.heap.objs.size ∨ b = H2.objs.size) σ₂ σ₂ s₂.heap h₁ := .grow old (by rw [hsz₁]; exact Nat.le_add_right _ _)
 have hσD : σ₂ s₂.heap.objs.size = Option.none := R₂.freshNone (bw _)
 have hIb : C.hB.get? I = Option.none := R₀.baseNone (aB hI)
 have hIL : I ≠ H2.objs.size := by rw [hC]; exact Nat.ne_of_lt (Nat.lt_succ_of_lt hI2)
 have wk : ∀ {v m'}, eE g v (only fv m) = some m' → ∀ x u, only fv m x = some u → m' x = some u := fun hb x u e => by
  rw [oP hb]; exact e
  intro hx
  unfold only at e
  rw [if_neg (ok.tgt x hx)] at e; cases e
 have loop : ∀ s₃ : Shared, s₃ = { s₂ with heap := h₁, toks := s₂.toks + ([] : List (Str × Value)).length } →
   codeAny (model C.prog C.w) A (.compLoop (.ListComp elt [⟨target, iter, ifs, 0⟩] cs pos) 0 (.ref I) (.ref s₂.heap.objs.size) (compEnvC cs (lG env.cells cs.names []) H2.objs.size env)) (RR (.ref s₂.heap.objs.size) H2.objs.size) s₃ := by
  rintro s₃ rfl
  generalize compEnvC cs (lG env.cells cs.names []) H2.objs.size env = cenv at hLC eS eCl enC F₁ ⊢
  refine nh
   (CompInv C cenv σ₂ s₂.heap I H2.objs.size (only fv m) items St fun rest ys σ' => dN g inv B T (only fv m) rest ys σ' Q) ?_ _
   ⟨0, [], [], σ₂, items, by simp, by simp, rfl, st₁, hσI, hσD, R₁, F₁, hacc, .nil, by simp, S₁, q⟩
  rintro n s' ⟨i, ys, ws, σ', rest, e1, e2, rfl, st', hσ', hσD', R', F', hp', hv', hl', S', q'⟩
  have nT : ∀ o, s'.heap.get? s₂.heap.objs.size = some o → ¬ jN o ∧ ∀ v, o.data ≠ .cell v := fun o ho => by
   obtain ⟨n, hn⟩ := hp'; rw [hn] at ho; cases ho; exact ⟨by simp [jN], by simp⟩
  have drew : ∀ {h' : Heap}, Heap.ExtBut I s'.heap h' → s'.heap.objs.size ≤ h'.objs.size → Step (fun b => b = I ∨ b = s₂.heap.objs.size ∨ b = H2.objs.size) σ' σ' s'.heap h' := fun hx hsz =>
   .of (fun b o e _ q => hx b o (fun z => q (.inl z)) e) hsz fun _ a b => absurd a b
  have ktI : ∀ {h' : Heap}, Heap.ExtBut I s'.heap h' → a0 s'.heap h' := fun hx b o e ht => hx b o (by
   rintro rfl; obtain ⟨oI, hoI, hT, _⟩ := hit.live _ _ st'; rw [hoI] at e; cases e; exact hT ht) e
  cases rest with
  | nil =>
   have hil : i = items.length := oJ e1 e2
   subst hil
   refine a7 (hit.done A σ' s' _ _ ao R' q'.1 st' fun h' tk hx hsz => ?_)
   have R₃ := cN (tk := tk) R' hx hσ' hIb (hit.live _ _ st')
   have F₃ := ck F' hx (hit.live _ _ st') (by rw [hLC]; exact hIL)
   have S₃ := S'.trans (drew hx hsz)
   obtain ⟨mm, hmm, _⟩ := F₃.ns
   rw [hLC] at hmm
   have sep := F₃.sepL
   rw [hLC] at sep
   refine hRR _ _ ys ws mm σ' _ hmm (by rw [hC]; exact Nat.le_succ _) (Nat.le_refl _) hDC hσD' sep (hp'.extBut hx (Nat.ne_of_gt hI2)) (hv'.keep (ktI hx)) R₃ hl' (((S.mono fun _ _ _ z => z.elim).trans S₃).mono fun b o e z => ?_) (S₃.mono fun b o e z => ?_) q'.2
   ·have := Heap.lt_size e
    have hh := S.size
    rcases z with z | z | z
    ·exact absurd this (by rw [z]; exact Nat.not_lt.mpr hI)
    ·exact absurd this (by rw [z]; exact Nat.not_lt.mpr hh)
    ·exact absurd this (by rw [z, hC]; exact Nat.not_lt.mpr (Nat.le_succ_of_le hh))
   ·have := Heap.lt_size e
    rcases z with z | z | z
    ·exact z
    ·exact absurd this (by rw [z]; exact Nat.lt_irrefl _)
    ·exact absurd this (by rw [z, hC]; exact Nat.not_lt.mpr (Nat.le_succ _))
  | cons v r =>
   obtain ⟨hinv, m₁, hm₁, q'⟩ := q'
   have hiv : items[i]? = some v := by
    have : (items.drop i)[0]? = some v := by rw [e1]; rfl
    simpa using this
   have hilt : i < items.length := q9 e1
   refine a7 (hit.next A σ' s' i v _ _ ao R' hinv st' hiv fun w h₂ tk₂ hv st₂ hx hsz => ?_)
   have R₃ := cN (tk := tk₂) R' hx hσ' hIb (hit.live _ _ st')
   have F₃ := ck F' hx (hit.live _ _ st') (by rw [hLC]; exact hIL)
   have S₃ := S'.trans (drew hx hsz)
   have hp₃ := hp'.extBut hx (Nat.ne_of_gt hI2)
   have hv₃ := hv'.keep (ktI hx)
   refine hit.own A _ (i + 1) target w _ _ st₂ ?_
   refine ht.run cenv A _ (only fv m) m₁ σ' v w _ _ enC ao R₃ F₃ hv hm₁ fun s₄ R₄ F₄ S₄ => ?_
   have S₄' : Step (fun b => b = H2.objs.size) σ' σ' h₂ s₄.heap := S₄.mono fun b _ _ z => z.elim (fun z => by rw [hLC] at z; exact z) fun z => by cases z.1
   have kt₄ : a0 h₂ s₄.heap := S₄'.tups (s := { s' with heap := h₂, toks := tk₂ }) R₃ fun b o z e => by
    subst z; rw [← hLC] at e; exact F₃.ownT _ o (.inl rfl) e
   have st₄ : St (i + 1) s₄.heap := hit.frame _ _ _ st₂ (fun o e => S₄'.keep I o e hσ' hIL (hit.flds _ _ st₂ o e)) kt₄
   have hp₄ : s₄.heap.PlainList s₂.heap.objs.size (List.toArray ws) := hp₃.at fun o e => S₄'.keep _ o e hσD' hDC (ko hp₃ o e)
   have hv₄ := hv₃.keep kt₄
   have S₅ : Step (fun b => b = I ∨ b = s₂.heap.objs.size ∨ b = H2.objs.size) σ₂ σ' s₂.heap s₄.heap := S₃.trans (S₄'.mono fun _ _ _ z => .inr (.inr z))
   refine hB.run cenv A s₄ m₁ σ' _ _ _ enC ao R₄ F₄ q' fun b σ₅ s₅ R₅ Sb q₅ => ?_
   have sepI : ∀ {σa σb : ag} {sa : Shared} {hb : Heap}, Step no σa σb sa.heap hb → St (i + 1) sa.heap → σa I = Option.none → σb I = Option.none := fun {σa σb sa hb} Sx stx hx => by
    cases z : σb I with
    | none => rfl
    | some o =>
     obtain ⟨o', ho', _⟩ := hit.live _ _ stx
     exact absurd (Heap.lt_size ho') (Nat.not_lt.mpr (Sx.new I hx (by rw [z]; simp)))
   have sepD : ∀ {σa σb : ag} {sa : Shared} {hb : Heap}, Step no σa σb sa.heap hb → sa.heap.PlainList s₂.heap.objs.size (List.toArray ws) → σa s₂.heap.objs.size = Option.none → σb s₂.heap.objs.size = Option.none := fun {σa σb sa hb} Sx hpx hx => by
    cases z : σb s₂.heap.objs.size with
    | none => rfl
    | some o =>
     obtain ⟨n', hn'⟩ := hpx
     exact absurd (Heap.lt_size hn') (Nat.not_lt.mpr (Sx.new _ hx (by rw [z]; simp)))
   have st₅ : St (i + 1) s₅.heap := hit.frame _ _ _ st₄ (fun o e => Sb.keep I o e hσ' (fun z => z) (hit.flds _ _ st₄ o e)) (Sb.tupsN R₄)
   have hp₅ : s₅.heap.PlainList s₂.heap.objs.size (List.toArray ws) := hp₄.at fun o e => Sb.keep _ o e hσD' (fun z => z) (ko hp₄ o e)
   have hv₅ := hv₄.keep (Sb.tupsN R₄)
   have F₅ := F₄.step R₄ Sb
   have hσ₅ := sepI Sb st₄ hσ'
   have hσD₅ := sepD Sb hp₄ hσD'
   have S₆ := S₅.trans (Sb.mono fun _ _ _ z => z.elim)
   have dr : items.drop (i + 1) = r := by rw [← List.tail_drop, e1]; rfl
   cases b with
   | false =>
    simp only [Bool.false_eq_true, if_false] at q₅ ⊢
    exact ⟨r.length + 1, Nat.lt_succ_self _, i + 1, ys, ws, σ₅, r, dr, hilt, rfl, st₅, hσ₅, hσD₅, R₅, F₅.weaken (wk hm₁), hp₅, hv₅, hl', S₆, q₅⟩
   | true =>
    simp only [if_true] at q₅ ⊢
    refine hT.run cenv A s₅ m₁ σ₅ _ _ _ enC ao R₅ F₅ q₅ fun y wy σ₆ s₆ hy R₆ Sc q₆ => ?_
    obtain ⟨hlen, q₆⟩ := q₆
    have st₆ : St (i + 1) s₆.heap := hit.frame _ _ _ st₅ (fun o e => Sc.keep I o e hσ₅ (fun z => z) (hit.flds _ _ st₅ o e)) (Sc.tupsN R₅)
    have hp₆ : s₆.heap.PlainList s₂.heap.objs.size (List.toArray ws) := hp₅.at fun o e => Sc.keep _ o e hσD₅ (fun z => z) (ko hp₅ o e)
    have hv₆ := hv₅.keep (Sc.tupsN R₅)
    have hσ₆ := sepI Sc st₅ hσ₅
    have hσD₆ := sepD Sc hp₅ hσD₅
    have F₆ := F₅.step R₅ Sc
    refine wpAny_list_append_plain hp₆ (fun h₇ hp₇ hs₇ => ?_) (by rw [List.size_toArray, ← hv₆.length, sizeLine_eq]; exact Nat.le_trans hl' (by decide))
    have nD : ∀ o, s₆.heap.get? s₂.heap.objs.size = some o → ¬ jN o ∧ ∀ v, o.data ≠ .cell v := fun o ho => by
     obtain ⟨n, hn⟩ := hp₆; rw [hn] at ho; cases ho; exact ⟨by simp [jN], by simp⟩
    obtain ⟨oD, hoD⟩ : ∃ o, s₆.heap.get? s₂.heap.objs.size = some o := let ⟨n, hn⟩ := hp₆; ⟨_, hn⟩
    have kt₇ : a0 s₆.heap h₇ := fun b o e ht => hs₇.extBut b o (by rintro rfl; exact (nD o e).1 ht) e
    have R₇ : RelG C σ₆ { s₆ with heap := h₇ } := cN (tk := s₆.toks) R₆ hs₇.extBut hσD₆ (R₂.baseNone (bw _)) ⟨oD, hoD, nD oD hoD⟩
    have F₇ : FrameRel C cenv m₁ σ₆ h₇ := ck F₆ hs₇.extBut ⟨oD, hoD, nD oD hoD⟩ (by rw [hLC]; exact hDC)
    have st₇ : St (i + 1) h₇ := hit.frame _ _ _ st₆ (fun o e => hs₇.extBut I o (Nat.ne_of_lt hI2) e) kt₇
    refine ⟨r.length + 1, Nat.lt_succ_self _, i + 1, ys ++ [y], ws ++ [wy], σ₆, r, dr, hilt, rfl, st₇, hσ₆, hσD₆, R₇, F₇.weaken (wk hm₁), by simpa using hp₇, (hv₆.append (.cons hy .nil)).keep kt₇, by simp; exact Nat.le_of_lt_succ hlen, (S₆.trans (Sc.mono fun _ _ _ z => z.elim)).trans ?_, q₆⟩
    exact .of (fun b o e _ q => hs₇.extBut b o (fun z => q (.inr (.inl z))) e) (Nat.le_of_eq hs₇.1.symm) fun _ a b => absurd a b
 exact codeAny_compStart_list (loop _ rfl) (hit.self A _ 0 _ _ st₁ (loop _ rfl))
theorem m8 {env : Env} {m : aU} {σ : ag} {h : Heap} {cs : Scope} {fv : List String} {g : Tgt} (ok : CompOk sc cs fv g) (en : EnvOk env sc) (F : FrameRel C env m σ h) : ∀ x ∈ fv, pv env x := fun x hx =>
 F.has _ ((ok.frs x hx).2.imp (fun z => en.of z) fun z => en.of z)
theorem RelG.enter {σ : ag} {s : Shared} {D : Addr} {o : AObj} (R : RelG C σ s) (hD : C.hB.get? D = Option.none) (ho : ObjRel C s.heap D o) : RelG C (a8 σ D o) s :=
 ⟨R.rest, R.base, fun a o' e => by
  by_cases h : a = D
  ·subst h; rw [an] at e; cases e; exact ho
  ·rw [aI h] at e; exact R.view a o' e,
   fun a ha => by
  by_cases h : a = D
  ·subst h; exact hD
  ·rw [aI h] at ha; exact R.apart a ha⟩
theorem Step.enter {own : Addr → Prop} {σ σ' : ag} {h h' : Heap} {D : Addr} {o : AObj} (S : Step own σ σ' h h') (hD : h.objs.size ≤ D) : Step own σ (a8 σ' D o) h h' :=
 ⟨S.keepL, S.size, fun b n z => by
  by_cases hb : b = D
  ·subst hb; exact hD
  ·rw [aI hb] at z; exact S.new b n z⟩
theorem j0 {elt iter target : Expr} {ifs : List Expr} {cs : Scope} {pos : Pos} {fv : List String} {g : Tgt} {I : IT} {B : BT} {T : ET} (ok : CompOk sc cs fv g)
  (hi : HI C sc k iter I) (ht : HT C (fG sc cs) k true target g) (hB : HTs C (fG sc cs) k ifs B) (hT : HE C (fG sc cs) k elt T) (hf : ∀ env x, foldedSetIterable iter env x = pure x) :
  HE C sc k (.ListComp elt [⟨target, iter, ifs, 0⟩] cs pos) (jq fv g I B T) := by
 refine ⟨?_⟩; intro env A s m σ Q P E en ao R F q hP
 have hfree : ∀ p ∈ cs.names, p.2 = .free → ∃ c, env.cells.lookup p.1 = some c := fun p hp hq => by
  obtain ⟨x, hx, e⟩ := ok.frees p hp hq
  rw [← e]; exact m8 ok en F x hx
 rw [eval_ListComp]
 refine wpAny_comprehension_free (use := Option.none) rfl (hf env) (kT hfree) ok.kind ok.names (hi.run env A s m σ _ _ E en ao R F q fun items inv I St σ₂ s₂ hit st hI hσI R₂ S₂ q₂ => ?_)
 refine mB (RR := fun acc C' => compPost (model C.prog C.w) A E Option.none P acc C') ok (m8 ok en F) ht hB hT en ao R S₂ R₂ (F.step R S₂) hit st hI hσI q₂ ?_
 intro D C' ys ws mm σ' s' hmm hC' hD hDC hσD hσC hp hv R' hly S' SI q'
 refine ⟨mm, hmm, fun h'' hs'' => ?_⟩
 have nT : ∀ o, s'.heap.get? C' = some o → ¬ jN o ∧ ∀ v, o.data ≠ .cell v := fun o ho => by
  obtain ⟨o', es, ep, ho', hd', _⟩ := hmm; rw [ho'] at ho; cases ho; exact ⟨by simp [jN, hd'], by simp [hd']⟩
 obtain ⟨oC, hoC⟩ : ∃ o, s'.heap.get? C' = some o := let ⟨o', _, _, ho', _⟩ := hmm; ⟨o', ho'⟩
 have hC0 : s.heap.objs.size ≤ C' := Nat.le_trans S₂.size hC'
 have hD0 : s.heap.objs.size ≤ D := Nat.le_trans S₂.size hD
 have kt : a0 s'.heap h'' := fun b o e ht => hs''.extBut b o (by rintro rfl; exact (nT o e).1 ht) e
 have R₃ : RelG C σ' { s' with heap := h'' } := cN (tk := s'.toks) R' hs''.extBut hσC (R.baseNone (aB hC0)) ⟨oC, hoC, nT oC hoC⟩
 have R₄ := R₃.enter (D := D) (o := .list ys) (R.baseNone (aB hD0)) ⟨by exact Nat.le_trans hly (by decide), ws, hp.extBut hs''.extBut hDC, hv.keep kt⟩
 have S₃ : Step (fun b => b = C') σ' σ' s'.heap h'' := .of (fun b o e _ q => hs''.extBut b o q e) (Nat.le_of_eq hs''.1.symm) fun _ a b => absurd a b
 have S₄ : Step no σ σ' s.heap h'' := ((S'.mono fun _ _ _ z => z.elim).trans S₃).mono fun b o e z => absurd (Heap.lt_size e) (by rw [z]; exact Nat.not_lt.mpr hC0)
 exact hP _ _ _ _ (.ref D) R₄ (S₄.enter hD0) (q' D hσD)
theorem pj {elt iter target : Expr} {ifs : List Expr} {cs : Scope} {pos p spos : Pos} {x : String} {fv : List String} {g : Tgt} {I : IT} {B : BT} {T : ET} (ok : CompOk sc cs fv g)
  (hi : HI C sc k iter I) (ht : HT C (fG sc cs) k true target g) (hB : HTs C (fG sc cs) k ifs B) (hT : HE C (fG sc cs) k elt T) (hf : ∀ env x, foldedSetIterable iter env x = pure x)
  (hx : sc.names.lookup (Str.ofString x) = some .local) (hsw : ∀ env, EnvOk env sc → swapsWith (.ListComp elt [⟨target, iter, ifs, 0⟩] cs pos) (some (.Name (Str.ofString x) p)) spos.line env = pure true) :
  HS1 C sc k (.Assign [.Name (Str.ofString x) p] (.ListComp elt [⟨target, iter, ifs, 0⟩] cs pos) spos) (bj x (jq fv g I B T)) := by
 refine ⟨?_⟩; intro env A s m σ Q P E en ao R F q hP
 have hfree : ∀ p ∈ cs.names, p.2 = .free → ∃ c, env.cells.lookup p.1 = some c := fun p hp hq => by
  obtain ⟨x, hx, e⟩ := ok.frees p hp hq
  rw [← e]; exact m8 ok en F x hx
 rw [exec_Assign_Name_used _ _ _ _ (hsw env en)]
 refine wpAny_bind (wpAny_standAt (wpAny_bind ?_))
 show wpAny _ A (do let _ ← comprehension (.ListComp elt [⟨target, iter, ifs, 0⟩] cs pos) cs env _ (newList []) false (eval iter env) (some (assign (.Name (Str.ofString x) p) env))) _ _ s
 refine wpAny_bind (wpAny_mono (wpAny_comprehension_free (use := some (assign (.Name (Str.ofString x) p) env)) (Q := fun _ s' => P .next s') rfl (hf env) (kT hfree) ok.kind ok.names (hi.run env A s m σ _ _ E en ao R F q fun items inv I St σ₂ s₂ hit st hI hσI R₂ S₂ q₂ => ?_))
  (fun _ s' hq => wpAny_pure (wpAny_pure hq)) fun _ _ e => e)
 refine mB (RR := fun acc C' => compPost (model C.prog C.w) A E (some (assign (.Name (Str.ofString x) p) env)) (fun _ s' => P .next s') acc C') ok (m8 ok en F) ht hB hT en ao R S₂ R₂ (F.step R S₂) hit st hI hσI q₂ ?_
 intro D C' ys ws mm σ' s' hmm hC' hD hDC hσD hσC hp hv R' hly S' SI q'
 have hC0 : s.heap.objs.size ≤ C' := Nat.le_trans S₂.size hC'
 have hD0 : s.heap.objs.size ≤ D := Nat.le_trans S₂.size hD
 have R₃ := R'.enter (D := D) (o := .list ys) (R.baseNone (aB hD0)) ⟨by exact Nat.le_trans hly (by decide), ws, hp, hv⟩
 have S₃ := S'.enter (o := .list ys) hD0
 have F₃ := F.step R S₃
 have hCL : C' ≠ env.locals := fun e => by
  obtain ⟨mL, hmL, _⟩ := F.ns
  exact absurd hmL.lt (by rw [← e]; exact Nat.not_lt.mpr hC0)
 refine wpAny_assign_Name (dS en R₃ F₃ hx (.ref D) fun s₄ R₄ F₄ S₄ => ?_)
 have hσ₃C : a8 σ' D (.list ys) C' = Option.none := by rw [aI (Ne.symm hDC)]; exact hσC
 have hmm4 : s₄.heap.Ns C' mm := Like.ns hmm fun o e => S₄.keepL C' o e hσ₃C hCL
 refine ⟨mm, hmm4, fun h'' hs'' => ?_⟩
 have nT : ∀ o, s₄.heap.get? C' = some o → ¬ jN o ∧ ∀ v, o.data ≠ .cell v := fun o ho => by
  obtain ⟨o', es, ep, ho', hd', _⟩ := hmm4; rw [ho'] at ho; cases ho; exact ⟨by simp [jN, hd'], by simp [hd']⟩
 obtain ⟨oC, hoC⟩ : ∃ o, s₄.heap.get? C' = some o := let ⟨o', _, _, ho', _⟩ := hmm4; ⟨o', ho'⟩
 have R₅ := cN (tk := s₄.toks) R₄ hs''.extBut hσ₃C (R.baseNone (aB hC0)) ⟨oC, hoC, nT oC hoC⟩
 have F₅ := ck F₄ hs''.extBut ⟨oC, hoC, nT oC hoC⟩ hCL
 have S₅ : Step (fun b => b = env.locals ∨ b = C') (a8 σ' D (.list ys)) (a8 σ' D (.list ys)) s'.heap h'' := (S₄.mono fun _ _ _ z => .inl z).trans (.of (fun b o e _ q => hs''.extBut b o (fun z => q (.inr z)) e) (Nat.le_of_eq hs''.1.symm) fun _ a b => absurd a b)
 have S₆ : Step (jd env) σ (a8 σ' D (.list ys)) s.heap h'' := ((S₃.mono fun _ _ _ z => z.elim).trans S₅).mono fun b o e z => z.elim .inl fun z => absurd (Heap.lt_size e) (by rw [z]; exact Nat.not_lt.mpr hC0)
 exact hP .next .next _ _ _ .next R₅ F₅ S₆ (q' D hσD)
end
end Mine
end
noncomputable section
namespace Mine
open PySem
section
variable {C : Cx} {sc : Scope} {k : Nat}
noncomputable def eX : Expr → Bool
 | .Slice .. => true
 | _ => false
theorem dD {A : Around} {s : Shared} {slice : Expr} {o i : Value} {T id : String} {P E : Value → Shared → Prop} (hsl : eX slice = false) (hT : s.TypeIs o T)
  (hl : typeLookup (.type T) "__getitem__" = pure (some (.builtin id))) (hg : wpAny (model C.prog C.w) A (getItem o i) P E s) :
  wpAny (model C.prog C.w) A (getitemInPython o >>= fun b => subscripted slice b o i) P E s := by
 refine wpAny_bind ?_
 rw [getitemInPython_of_ne hT.not_modules]
 refine wpAny_bind (wpAny_specialOf hT hl ?_)
 refine wpAny_pure ?_
 have : subscripted slice false o i = operate [o, i] (getItem o i) := by
  unfold subscripted
  cases slice <;> first | rfl | cases hsl
 rw [this]
 exact wpAny_operating hg
noncomputable def qb (i : Int) (n : Nat) : Option Nat := if 0 ≤ i then (if i < n then some i.toNat else Option.none) else (if -(n : Int) ≤ i then some (i + n).toNat else Option.none)
noncomputable def aL (ns : List Int) : O2
 | .str x, .int i, σ, Q => x.length < 16777217 ∧ ∃ j c, qb i x.length = some j ∧ x.cps.toList[j]? = some c ∧ Q (.str ⟨#[c]⟩) σ
 | .script, .int i, σ, Q => ∃ j n, 0 ≤ i ∧ qb i ns.length = some j ∧ ns[j]? = some n ∧ Q (.int n) σ
 | .tup vs, .int i, σ, Q => vs.length < 16777217 ∧ ∃ j v, qb i vs.length = some j ∧ vs[j]? = some v ∧ Q v σ
 | .ref a, .int i, σ, Q => ∃ xs j v, σ a = some (.list xs) ∧ qb i xs.length = some j ∧ xs[j]? = some v ∧ Q v σ
 | _, _, _, _ => False
theorem tO {i : Int} {n : Nat} (h : -(n : Int) ≤ i) : 0 ≤ i + n := by have := Int.add_le_add_right h n; rwa [Int.add_left_neg] at this
theorem tP {i : Int} {n : Nat} (h : i < 0) : i + n < n := by have := Int.add_lt_add_right h (n : Int); rwa [Int.zero_add] at this
theorem fM {i : Int} {n : Nat} (h0 : 0 ≤ i) (h : i < n) : i.toNat < n := by obtain ⟨m, rfl⟩ := Int.eq_ofNat_of_zero_le h0; exact Int.ofNat_lt.mp h
theorem tU {i : Int} {n : Nat} (h0 : 0 ≤ i) (h : i.toNat < n) : i < n := by obtain ⟨m, rfl⟩ := Int.eq_ofNat_of_zero_le h0; exact Int.ofNat_lt.mpr h
theorem fits {n : Nat} {i N : Int} (h1 : -(n : Int) ≤ i) (h2 : i < n) (hz : n ≤ 16777216) (hN : ((16777216 : Nat) : Int) ≤ N) : -N ≤ i ∧ i < N :=
 ⟨Int.le_trans (Int.neg_le_neg (Int.le_trans (Int.ofNat_le.mpr hz) hN)) h1, Int.lt_of_lt_of_le h2 (Int.le_trans (Int.ofNat_le.mpr hz) hN)⟩
theorem q0 {i : Int} {n j : Nat} (h : qb i n = some j) : seqIndex? i n = some j := by
 unfold qb at h
 unfold seqIndex?
 split at h
 ·split at h
  ·cases h
   rename_i h1 h2
   simp [Int.not_lt.mpr h1, h1, h2]
  ·cases h
 ·split at h
  ·cases h
   rename_i h1 h2
   have : i < 0 := by exact Int.not_le.mp h1
   simp only [this, if_true]
   rw [if_pos (by simp only [Bool.and_eq_true, decide_eq_true_eq]; exact ⟨tO h2, tP this⟩)]
  ·cases h
theorem qa {i : Int} {n j : Nat} (h : qb i n = some j) : j < n ∧ -(n : Int) ≤ i ∧ i < n := by
 unfold qb at h
 split at h
 ·split at h
  ·rename_i h1 h2; cases h; exact ⟨fM h1 h2, Int.le_trans (Int.neg_nonpos_of_nonneg (Int.natCast_nonneg n)) h1, h2⟩
  ·cases h
 ·split at h
  ·rename_i h1 h2; cases h; exact ⟨fM (tO h2) (tP (Int.not_le.mp h1)), h2, Int.lt_of_lt_of_le (Int.not_le.mp h1) (Int.natCast_nonneg n)⟩
  ·cases h
theorem oF {A : Around} {s : Shared} {a : Addr} {ws : List Value} {i : Int} {t : Tok} {j : Nat} {w : Value} {P E : Value → Shared → Prop} (hl : s.heap.IsList a ws.toArray) (hi : qb i ws.length = some j) (hw : ws[j]? = some w) (hz : ws.length ≤ 16777216) (q : P w s) :
  wpAny (model C.prog C.w) A (getItem (.ref a) (.int i t)) P E s := by
 have hlt := qa hi
 by_cases h0 : 0 ≤ i
 ·have : j = i.toNat := by unfold qb at hi; rw [if_pos h0] at hi; split at hi <;> cases hi; rfl
  subst this
  exact wpAny_getItem_list hl h0 (fits hlt.2.1 hlt.2.2 hz (by decide)).2 (by simpa using hw) q
 ·have : j = (i + ws.length).toNat := by unfold qb at hi; rw [if_neg h0] at hi; split at hi <;> cases hi; rfl
  subst this
  refine wpAny_getItem_list_neg hl (by exact Int.not_le.mp h0) (by simp; exact hlt.2.1) (fits hlt.2.1 hlt.2.2 hz (by decide)).1 (by simpa using hw) q
theorem vC (O : C.Ok) {slice : Expr} (hsl : eX slice = false) : hW C k (fun o i => getitemInPython o >>= fun b => subscripted slice b o i) (aL C.ns) := by
 intro A s σ a b wa wb Q P E ao R va vb q hP
 cases a <;> first | exact q.elim | skip
 all_goals (cases b <;> first | exact q.elim | skip)
 ·rename_i x i
  cases va; cases vb
  obtain ⟨hx, j, c, hj, hc, q⟩ := q
  refine dD hsl (typeIs_str _ _ _) F.slot_str_getitem.lookup ?_
  have hlt := qa hj
  have e : Txt.charAt x i = some c := by
   unfold Txt.charAt
   rw [q0 hj]
   simpa using hc
  refine SB.getItem ?_ (by rw [e]; rfl) ?_
  ·unfold fitsSsize; simp; exact fits hlt.2.1 hlt.2.2 (Nat.le_of_lt_succ hx) (by decide)
  ·have e2 : Txt.item x i = ⟨#[c]⟩ := by unfold Txt.item; rw [e]; rfl
   rw [e2]
   exact hP _ _ σ _ (.str _ _) (R.tok _) Step.refl q
 ·rename_i aa i
  cases va; cases vb
  obtain ⟨xs, j, v, hx, hj, hv, q⟩ := q
  obtain ⟨hz, ws, h1, h2⟩ := R.view aa _ hx
  obtain ⟨w, hw, hr⟩ := h2.get hv
  exact dD hsl h1.isList.typeIs slot_list_getitem.lookup (oF h1.isList (by rw [← h2.length]; exact hj) hw (by rw [← h2.length]; exact hz) (hP _ _ σ s hr R Step.refl q))
 ·rename_i i
  cases va; cases vb
  obtain ⟨j, n, h0, hj, hv, q⟩ := q
  obtain ⟨ws, h1, h2, h3⟩ := O.script
  obtain ⟨t, ht⟩ := h3 j n hv
  have hl : s.heap.IsList C.aS ws := h1.at fun o e => R.base _ _ e
  have hl' : s.heap.IsList C.aS ws.toList.toArray := by simpa using hl
  exact dD hsl hl.typeIs slot_list_getitem.lookup (oF hl' (by rw [h2]; exact hj) ht (by rw [h2]; exact Nat.le_trans O.few (by decide)) (hP _ _ σ s (.int n t) R Step.refl q))
 ·rename_i vs i
  cases vb
  cases va with
  | @tup _ at' ws ht hvs =>
   obtain ⟨hz, j, v, hj, hv, q⟩ := q
   obtain ⟨w, hw, hr⟩ := hvs.get hv
   have hlt := qa hj
   have htt : PyProof.Rows.IsTup s.heap at' ws.toArray := ht
   refine dD hsl ht.typeIs (PyProof.Rows.slot_tuple_getitem).lookup (PyProof.Rows.getItem_tuple htt (fits hlt.2.1 hlt.2.2 (Nat.le_of_lt_succ hz) (by decide)).1 (fits hlt.2.1 hlt.2.2 (Nat.le_of_lt_succ hz) (by decide)).2 (by rw [List.size_toArray, ← hvs.length]; exact q0 hj) (by simpa using hw) (hP _ _ σ s hr R Step.refl q))
noncomputable def kY (n : Nat) (lo hi : Option Int) : Nat × Nat := (lo.elim 0 (clipAt n), hi.elim n (clipAt n) - lo.elim 0 (clipAt n))
noncomputable def bJ {α : Type} (l : List α) (lo hi : Option Int) : List α := (l.drop (kY l.length lo hi).1).take (kY l.length lo hi).2
noncomputable def tB (ns : List Int) (lo hi : Option Int) : O1
 | .str x, σ, Q => x.length ≤ 16777216 ∧ Q (.str ⟨(bJ x.cps.toList lo hi).toArray⟩) σ
 | .ref a, σ, Q => ∃ xs, σ a = some (.list xs) ∧ cJ (bJ xs lo hi) σ Q
 | .script, σ, Q => cJ ((bJ ns lo hi).map .int) σ Q
 | _, _, _ => False
structure HP (C : Cx) (sc : Scope) (k : Nat) (e : Option Expr) (T : aU → ag → (Option Int → ag → Prop) → Prop) : Prop where
 run : ∀ (env : Env) (A : Around) (s : Shared) (m : aU) (σ : ag) (Q : Option Int → ag → Prop) (P : Value → Shared → Prop) (E : Value → Shared → Prop),
  EnvOk env sc → AOk C A k → RelG C σ s → FrameRel C env m σ s.heap → T m σ Q →
  (∀ i p σ' s', i = Option.map Prod.fst p → RelG C σ' s' → Step no σ σ' s.heap s'.heap → Q i σ' → P (partValue p) s') →
  wpAny (model C.prog C.w) A (evalPart e env) P E s
noncomputable def qS : aU → ag → (Option Int → ag → Prop) → Prop := fun _ σ Q => Q Option.none σ
noncomputable def l3 (T : ET) : aU → ag → (Option Int → ag → Prop) → Prop := fun m σ Q => T m σ fun v σ' => ∃ i, v = .int i ∧ Q (some i) σ'
theorem rg : HP C sc k Option.none qS := ⟨fun env A s m σ Q P E en ao R F q hP => wpAny_pure (hP Option.none Option.none σ s rfl R Step.refl q)⟩
theorem jZ {e : Expr} {T : ET} (he : HE C sc k e T) : HP C sc k (some e) (l3 T) := ⟨fun env A s m σ Q P E en ao R F q hP =>
 he.run env A s m σ _ _ E en ao R F q fun v w σ' s' hv R' S' q' => by
  obtain ⟨i, rfl, q'⟩ := q'
  cases hv with
  | int i t => exact hP (Option.some i) (Option.some (i, t)) σ' s' rfl R' S' q'⟩
theorem rb {α : Type} (l : List α) (lo hi : Option Int) : (bJ l lo hi).length ≤ l.length := by
 unfold bJ; rw [List.length_take, List.length_drop]; exact Nat.le_trans (Nat.min_le_right _ _) (Nat.sub_le _ _)
theorem v5 (n : Nat) (i : Int) : clipAt n i ≤ n := Int.ofNat_le.mp (by rw [clipAt_cast]; exact Int.max_le.mpr ⟨Int.natCast_nonneg _, Int.min_le_right _ _⟩)
theorem v4 {α : Type} {l : List α} {lo hi : Option Int} (h : (kY l.length lo hi).2 = l.length) : bJ l lo hi = l :=
 ((List.take_sublist _ _).trans (List.drop_sublist _ _)).eq_of_length (by
  rw [List.length_take, List.length_drop, h]
  refine Nat.min_eq_left (Nat.le_trans (Nat.le_of_eq h.symm) (Nat.sub_le_sub_right ?_ _))
  cases hi with
  | none => exact Nat.le_refl _
  | some i => exact v5 _ i)
theorem VRels.cut {aS : Addr} {h : Heap} {vs : List V} {ws : List Value} (x : VRels aS h vs ws) (a b : Nat) : VRels aS h ((vs.drop a).take b) ((ws.drop a).take b) := by
 have hd : ∀ (a : Nat) {vs : List V} {ws : List Value}, VRels aS h vs ws → VRels aS h (vs.drop a) (ws.drop a) := by
  intro a
  induction a with
  | zero => intro vs ws x; exact x
  | succ a ih => intro vs ws x; cases x with
   | nil => exact .nil
   | cons _ r => exact ih r
 have ht : ∀ (b : Nat) {vs : List V} {ws : List Value}, VRels aS h vs ws → VRels aS h (vs.take b) (ws.take b) := by
  intro b
  induction b with
  | zero => intro vs ws x; exact .nil
  | succ b ih => intro vs ws x; cases x with
   | nil => exact .nil
   | cons a r => exact .cons a (ih r)
 exact ht b (hd a x)
theorem qZ (n : Nat) (lo hi : Option Int) : Builtin.Str.strSliceIndices lo hi 1 n = sliceRange ((lo.elim 0 (clipAt n) : Nat) : Int) ((hi.elim n (clipAt n) : Nat) : Int) 1 := by
 unfold Builtin.Str.strSliceIndices
 cases lo <;> cases hi <;> simp [clipAt_cast]
theorem wQ (x : Str) (lo hi : Option Int) : ((Builtin.Str.strSliceIndices lo hi 1 x.length).filterMap (x.cps[·]?)) = bJ x.cps.toList lo hi := by
 rw [qZ, sliceRange_one, pick_run]
 unfold bJ kY
 simp [Str.length]
noncomputable def uC (ns : List Int) (T : ET) (L U : aU → ag → (Option Int → ag → Prop) → Prop) : ET := fun m σ Q => T m σ fun v σ₁ => L m σ₁ fun lo σ₂ => U m σ₂ fun hi σ₃ => tB ns lo hi v σ₃ Q
theorem qE (O : C.Ok) {value : Expr} {lower upper : Option Expr} {p pos : Pos} {T : ET} {L U : aU → ag → (Option Int → ag → Prop) → Prop} (hv : HE C sc k value T) (hl : HP C sc k lower L) (hu : HP C sc k upper U) :
  HE C sc k (.Subscript value (.Slice lower upper Option.none p) pos) (uC C.ns T L U) := by
 refine ⟨?_⟩; intro env A s m σ Q P E en ao R F q hP
 rw [eval_Subscript]
 refine wpAny_bind (hv.run env A s m σ _ _ E en ao R F q fun v w σ₁ s₁ va R₁ S₁ q₁ => wpAny_bind (wpAny_holding (wpAny_Slice ?_)))
 have F₁ := F.step R S₁
 refine hl.run env A s₁ m σ₁ _ _ E en ao R₁ F₁ q₁ fun lo pl σ₂ s₂ el R₂ S₂ q₂ => ?_
 refine hu.run env A s₂ m σ₂ _ _ E en ao R₂ (F₁.step R₁ S₂) q₂ fun hi pu σ₃ s₃ eu R₃ S₃ q₃ => ?_
 rw [evalPart_none]
 refine wpAny_pure (wpAny_bind (wpAny_standAt ?_))
 have va₃ := (va.keep (S₂.tupsN R₁)).keep (S₃.tupsN R₂)
 have S₁₃ := (S₁.trans S₂).trans S₃
 have Rs : RelG C σ₃ { s₃ with heap := s₃.heap.push { cls := .type "slice", data := .fields #[partValue pl, partValue pu, .none] } } := R₃.grow (tk := s₃.toks) a4
 have part : ∀ p : Option (Int × Tok), IsPart (partValue p) (p.map (·.1)) := fun p => by
  cases p with
  | none => exact .none
  | some x => exact .int _ _
 have go : ∀ {T id : String} {o : Value} {s : Shared}, s.TypeIs o T → typeLookup (.type T) "__getitem__" = pure (some (.builtin id)) → ∀ {i : Value}, wpAny (model C.prog C.w) A (getItem o i) P E s →
   wpAny (model C.prog C.w) A ((getitemInPython o >>= fun b => subscripted (.Slice lower upper Option.none p) b o i) >>= fun r => letTemporaryGo value o r >>= fun _ => pure r) P E s := fun {T id o s} hT hl {i} hg => by
  refine wpAny_bind (wpAny_bind ?_)
  rw [getitemInPython_of_ne hT.not_modules]
  refine wpAny_bind (wpAny_specialOf hT hl (wpAny_pure ?_))
  show wpAny _ A (operate [i, o] (getItem o i)) _ _ _
  exact wpAny_operating (wpAny_mono hg (fun r s' hr => wpAny_bind (wpAny_letTemporaryGo (wpAny_pure hr))) fun _ _ x => x)
 have fin : ∀ {o i : Value} {s : Shared}, wpAny (model C.prog C.w) A ((getitemInPython o >>= fun b => subscripted (.Slice lower upper Option.none p) b o i) >>= fun r => letTemporaryGo value o r >>= fun _ => pure r) P E s →
   wpAny (model C.prog C.w) A (getitemInPython o >>= fun b => subscripted (.Slice lower upper Option.none p) b o i >>= fun r => letTemporaryGo value o r >>= fun _ => pure r) P E s := fun h => by rwa [bind_assoc] at h
 have pick : ∀ (ws : List Value), slicePick ws.toArray lo hi Option.none = (bJ ws lo hi).toArray := fun ws => by
  rw [slicePick_plain]; simp [bJ, kY]
 have lists : ∀ (a : Addr) (vs : List V) (ws : List Value), s₃.heap.IsList a ws.toArray → VRels C.aS s₃.heap vs ws → vs.length ≤ 16777216 → cJ (bJ vs lo hi) σ₃ Q →
   wpAny (model C.prog C.w) A (getitemInPython (.ref a) >>= fun b => subscripted (.Slice lower upper Option.none p) b (.ref a) (.ref s₃.heap.objs.size) >>= fun r => letTemporaryGo value (.ref a) r >>= fun _ => pure r) P E { s₃ with heap := s₃.heap.push { cls := .type "slice", data := .fields #[partValue pl, partValue pu, .none] } } := fun a vs ws hla hvs hz qn => by
  refine fin (go (hla.push _).typeIs slot_list_getitem.lookup (wpAny_getItem_list_slice (lo := lo) (hi := hi) (st := Option.none) (hla.push _) (Heap.IsSliceOf.new ..) (el ▸ part pl) (eu ▸ part pu) .none (by simp) ?_ (by rw [List.size_toArray, ← hvs.length, sizeLine_eq]; exact hz)))
  rw [pick]
  have hn := bw (s₃.heap.push { cls := .type "slice", data := .fields #[partValue pl, partValue pu, .none] })
  refine hP _ _ (a8 σ₃ _ (.list (bJ vs lo hi))) _ (.ref _) (Rs.add (tk := s₃.toks) a4 hn ⟨Nat.le_trans (rb vs lo hi) hz, bJ ws lo hi, ⟨_, Heap.get?_push_size _ rfl⟩, ?_⟩) ((S₁₃.trans .push).trans .addPush) (qn _ (Rs.freshNone hn))
  have := (hvs.cut (kY vs.length lo hi).1 (kY vs.length lo hi).2).keep (h' := (s₃.heap.push { cls := .type "slice", data := .fields #[partValue pl, partValue pu, .none] }).push { cls := .type "list", data := .seq (bJ ws lo hi).toArray }) fun _ _ e _ => a4 _ _ (a4 _ _ e)
  have e2 : bJ ws lo hi = (ws.drop (kY vs.length lo hi).1).take (kY vs.length lo hi).2 := by unfold bJ; rw [hvs.length]
  rw [← e2] at this
  exact this
 show wpAny _ A (getitemInPython w >>= fun b => subscripted (.Slice lower upper Option.none p) b w (.ref s₃.heap.objs.size) >>= fun r => letTemporaryGo value w r >>= fun _ => pure r) P E _
 cases va₃ with
 | none => exact q₃.elim
 | bool => exact q₃.elim
 | int => exact q₃.elim
 | ty => exact q₃.elim
 | tup => exact q₃.elim
 | script =>
  obtain ⟨ws, h1, h2, h3⟩ := O.script
  have hl : s₃.heap.IsList C.aS ws.toList.toArray := by simpa using (h1.at fun o e => R₃.base _ _ e)
  have hvs : VRels C.aS s₃.heap (C.ns.map .int) ws.toList := by
   have : ∀ (ns : List Int) (l : List Value), l.length = ns.length → (∀ (i : Nat) n, ns[i]? = Option.some n → ∃ t, l[i]? = Option.some (Value.int n t)) → VRels C.aS s₃.heap (ns.map .int) l := by
    intro ns
    induction ns with
    | nil => intro l hl _; cases l with | nil => exact .nil | cons => simp at hl
    | cons n r ih => intro l hl h; cases l with
     | nil => simp at hl
     | cons w r' =>
      obtain ⟨t, ht⟩ := h 0 n rfl
      simp at ht; subst ht
      exact .cons (.int n t) (ih r' (by simpa using hl) fun i n hi => h (i + 1) n (by simpa using hi))
   exact this _ _ h2 h3
  refine lists _ _ _ hl hvs (by have := O.few; simp; exact Nat.le_trans this (by decide)) ?_
  have e : bJ (C.ns.map V.int) lo hi = (bJ C.ns lo hi).map .int := by unfold bJ; simp [List.map_take, List.map_drop]
  rw [e]; exact q₃
 | ref a =>
  obtain ⟨xs, hx, qn⟩ := q₃
  obtain ⟨hz, ws, h1, h2⟩ := R₃.view a _ hx
  exact lists a xs ws h1.isList h2 hz qn
 | str x t =>
  obtain ⟨hx, q₃⟩ := q₃
  refine fin (go (typeIs_str _ x t) _root_.PySem.F.slot_str_getitem.lookup (wpAny_getItem_str_slice (l := pl) (u := pu) (st := Option.none) ⟨_, Heap.get?_push_size _ rfl, rfl, rfl⟩ rfl ?_))
  have e1 : slicePicked x pl pu Option.none = Builtin.Str.strSliceIndices lo hi 1 x.length := by unfold slicePicked; rw [el, eu]; rfl
  have e2 := wQ x lo hi
  unfold sliceMade
  rw [e1, e2]
  have res : ∀ t' tk, P (.str ⟨(bJ x.cps.toList lo hi).toArray⟩ t') { s₃ with heap := s₃.heap.push { cls := .type "slice", data := .fields #[partValue pl, partValue pu, .none] }, toks := tk } := fun t' tk =>
   hP _ _ σ₃ _ (.str _ _) (R₃.grow a4) (S₁₃.trans .push) q₃
  split
  ·rename_i hc
   have hlen : (Builtin.Str.strSliceIndices lo hi 1 x.length).length = x.length := by simpa using hc
   have : (⟨(bJ x.cps.toList lo hi).toArray⟩ : Str) = x := by
    have hh : (bJ x.cps.toList lo hi) = x.cps.toList := by
     rw [qZ, sliceRange_one] at hlen
     refine v4 ?_
     have hxl : x.cps.toList.length = x.length := Array.length_toList
     rw [hxl]
     simpa [kY] using hlen
    rw [hh]
   have r := res t s₃.toks
   rw [this] at r
   exact r
  ·refine ⟨?_, res _ _⟩
   show (bJ x.cps.toList lo hi).toArray.size ≤ sizeLine
   rw [List.size_toArray, sizeLine_eq]
   exact Nat.le_trans (rb x.cps.toList lo hi) (by rw [Array.length_toList]; exact hx)
end
end Mine
end
noncomputable section
set_option tactic.hygienic false
namespace Mine
open PySem
section
variable {C : Cx} {sc : Scope} {k : Nat}
noncomputable def a6 (ty : V → ag → Prop) (op : bR) (T : ET) (L : LT) : ET := fun m σ Q => T m σ fun o σ₁ => ty o σ₁ ∧ L m σ₁ fun vs σ₂ => op (o :: vs) σ₂ Q
noncomputable def wh (C : Cx) (T : String) (ty : V → ag → Prop) : Prop := ∀ (o : V) (wo : Value) (σ : ag) (s : Shared), RelG C σ s → VRel C.aS s.heap o wo → ty o σ → s.TypeIs wo T ∧ ∀ a, wo = .ref a → ∃ ob, s.heap.get? a = some ob ∧ ob.dict = Option.none
theorem gy {T id : String} {name : Str} {o : Expr} {apos pos : Pos} {es : List Expr} {ty : V → ag → Prop} {op : bR} {To : ET} {L : LT} (hty : wh C T ty) (pa : PlainAttrs T) (slot : Slot T name id) (hmd : typeOf (.builtin id) = pure (.type "method_descriptor"))
  (hop : nG C k (fun ws => PySem.call (.builtin id) ws) op) (ho : HE C sc k o To) (hl : HL C sc k es L) (hp : aD es = true)
  (hbase : ∀ env, attributeBase o name env (eval o env) = eval o env) (hline : (apos.endLine == pos.line) = true) (hfew : es.length < 30) : HE C sc k (.Call (.Attribute o name apos) es [] pos) (a6 ty op To L) := by
 refine ⟨?_⟩; intro env A s m σ Q P E en ao R F q hP
 have hall : (backTo pos (starEach es env)).all (fun x => !x.1) = true := by
  have := a9 (env := env) (pos := pos) hp
  rw [List.any_eq_false] at this
  rw [List.all_eq_true]
  intro x hx
  have := this x hx
  simp at this
  simp [this]
 refine wpAny_Call_method (hbase env) (by rw [hall]; exact decide_eq_true hfew) hline pa slot hmd ?_
 refine ho.run env A s m σ _ _ E en ao R F q fun v w σ₁ s₁ hv R₁ S₁ q₁ => ?_
 obtain ⟨h1, h2⟩ := hty v w σ₁ s₁ R₁ hv q₁.1
 refine ⟨h1, h2, Calls.callWith_builtin (a9 hp) (aY hp (hl.run env A s₁ m σ₁ pos _ _ E en ao R₁ (F.step R S₁) q₁.2 fun vs ws σ₂ s₂ hvs R₂ S₂ q₂ => ?_))⟩
 exact hop A s₂ σ₂ (v :: vs) (w :: ws) Q P E ao R₂ (.cons (hv.keep (S₂.tupsN R₁)) hvs) q₂ fun v' w' σ' s' hv' R' S' q' => hP v' w' σ' s' hv' R' ((S₁.trans S₂).trans S') q'
noncomputable def ej : V → ag → Prop
 | .str _, _ => True
 | _, _ => False
theorem j2 : wh C "str" ej := by
 intro o wo σ s R hv h
 cases hv <;> first | exact h.elim | skip
 exact ⟨typeIs_str _ _ _, fun a e => by cases e⟩
noncomputable def ca : V → ag → Prop
 | .ref a, σ => ∃ xs, σ a = some (.list xs)
 | _, _ => False
theorem rx : wh C "list" ca := by
 intro o wo σ s R hv h
 cases hv <;> first | exact h.elim | skip
 obtain ⟨xs, hx⟩ := h
 obtain ⟨_, ws, h1, h2⟩ := R.view _ _ hx
 refine ⟨h1.isList.typeIs, fun b e => ?_⟩
 cases e
 obtain ⟨n, hn⟩ := h1
 exact ⟨_, hn, rfl⟩
theorem VRels.inv1 {aS : Addr} {h : Heap} {a : V} {ws : List Value} (x : VRels aS h [a] ws) : ∃ wa, ws = [wa] ∧ VRel aS h a wa := by
 cases x with
 | cons h1 r => cases r; exact ⟨_, rfl, h1⟩
theorem VRels.inv2 {aS : Addr} {h : Heap} {a b : V} {ws : List Value} (x : VRels aS h [a, b] ws) : ∃ wa wb, ws = [wa, wb] ∧ VRel aS h a wa ∧ VRel aS h b wb := by
 cases x with
 | cons h1 r => obtain ⟨wb, rfl, h2⟩ := r.inv1; exact ⟨_, _, rfl, h1, h2⟩
noncomputable def dF : bR := fun vs σ Q => onSS vs fun x y => Q (.bool (Txt.startswith x y)) σ
theorem rU : nG C k (fun ws => PySem.call (.builtin "str.startswith") ws) dF := by
 intro A s σ vs ws Q P E ao R hv q hP
 replace q := onSS.elim q
 obtain ⟨n0, n1, rfl, q⟩ := q
 ·obtain ⟨wa, wb, rfl, h1, h2⟩ := hv.inv2
  cases h1; cases h2
  exact SC.startswith (hP _ _ σ s (.bool _) R Step.refl q)
theorem qK {aS : Addr} {h : Heap} : ∀ {ys : List Str} {ws : List Value}, VRels aS h (ys.map .str) ws → ∃ l : List (Str × Tok), ws = strValues l ∧ l.map (·.1) = ys
 | [], _, r => ⟨[], r.inv0, rfl⟩
 | y :: ys, _, r => by
  obtain ⟨w, ws, rfl, h1, r2⟩ := r.invC
  obtain ⟨t, rfl⟩ := h1.invStr
  obtain ⟨l, rfl, rfl⟩ := qK r2
  exact ⟨(y, t) :: l, rfl, rfl⟩
theorem nU {aS : Addr} {h : Heap} : ∀ (l : List (Str × Tok)), VRels aS h ((l.map (·.1)).map .str) (strValues l)
 | [] => .nil
 | (x, t) :: l => .cons (.str x t) (nU l)
noncomputable def j8 : bR := fun vs σ Q => onSR vs fun x a => ∃ ys : List Str, σ a = some (.list (ys.map .str)) ∧ (ys.map (·.length)).sum + ys.length * x.length ≤ 16777216 ∧ Q (.str (Str.join x ys)) σ
theorem mj (x : Str) : ∀ (l : List Str) (n : Nat), l.foldl (fun a y => a + y.length + x.length) n = n + (l.map (·.length)).sum + l.length * x.length
 | [], n => by simp
 | y :: r, n => by
  rw [List.foldl_cons, mj x r]
  simp [Nat.add_mul]; exact Nat.le_antisymm (dK fun hg => lN [n, (y.length), (x.length), ((List.map (fun x => x.length) r).sum), (r.length * x.length)] 0x41cc520000019003940400061 rfl hg) (dK fun hg => lN [n, (y.length), (x.length), ((List.map (fun x => x.length) r).sum), (r.length * x.length)] 0x3200728080020e62900000061 rfl hg)
theorem qc (x : Str) : ∀ ys : List Str, Builtin.Str.glued x ys = Str.join x ys := by
 have key : ∀ (r : List Str) (acc : Array Nat), (⟨r.foldl (fun acc p => acc ++ x.cps ++ p.cps) acc⟩ : Str) = match r with | [] => ⟨acc⟩ | _ => (⟨acc⟩ : Str) ++ x ++ Str.join x r := by
  intro r
  induction r with
  | nil => intro acc; rfl
  | cons y r ih =>
   intro acc
   rw [List.foldl_cons, ih]
   cases r with
   | nil => rfl
   | cons z r =>
    show (⟨acc ++ x.cps ++ y.cps⟩ : Str) ++ x ++ Str.join x (z :: r) = (⟨acc⟩ : Str) ++ x ++ (y ++ x ++ Str.join x (z :: r))
    have : ∀ a b : Str, a ++ b = ⟨a.cps ++ b.cps⟩ := fun _ _ => rfl
    simp only [this, Array.append_assoc]
 intro ys
 cases ys with
 | nil => rfl
 | cons y r =>
  unfold Builtin.Str.glued
  simp only [List.drop_one, List.tail_cons, List.headD_cons]
  rw [key]
  cases r with
  | nil => rfl
  | cons z r => rfl
theorem vB : nG C k (fun ws => PySem.call (.builtin "str.join") ws) j8 := by
 intro A s σ vs ws Q P E ao R hv q hP
 replace q := onSR.elim q
 obtain ⟨x, a, rfl, q⟩ := q
 ·obtain ⟨wa, wb, rfl, h1, h2⟩ := hv.inv2
  cases h1; cases h2
  obtain ⟨ys, hy, hl, q⟩ := q
  obtain ⟨_, ws, h3, h4⟩ := R.view a _ hy
  obtain ⟨l, rfl, e⟩ := qK h4
  refine SC.join (texts := ys) h3.isList e ?_ fun t' tk => ?_
  ·unfold JoinOk Builtin.Str.tooLong
   rw [← Array.foldl_toList, mj]
   rw [sizeLine_eq]
   simp
   exact hl
  ·have : Txt.join x ys = Str.join x ys := qc x ys
   rw [this]
   exact hP _ _ σ _ (.str _ _) (R.tok _) Step.refl q
noncomputable def ia : bR := fun vs σ Q => onSS vs fun x y => (y.length = 1 ∧ x.length ≤ 1048576) ∧ cJ ((Txt.split x y).map .str) σ Q
theorem iV {A : Around} {s : Shared} {σ : ag} {xs : List V} {ws : List Value} {tk : Nat} {Q : V → ag → Prop} {P : Value → Shared → Prop} (R : RelG C σ s) (hv : VRels C.aS s.heap xs ws) (hz : xs.length ≤ 16777216) (q : cJ xs σ Q) (hP : uX C σ s Q P) :
  P (.ref s.heap.objs.size) { s with heap := s.heap.push { cls := .type "list", data := .seq ws.toArray }, toks := tk } := by
 have hn := bw s.heap
 exact hP _ _ (a8 σ s.heap.objs.size (.list xs)) _ (.ref _) (R.add (tk := tk) a4 hn ⟨hz, ws, ⟨_, Heap.get?_push_size _ rfl⟩, hv.keep fun _ _ e _ => a4 _ _ e⟩) .addPush (q _ (R.freshNone hn))
theorem tE : nG C k (fun ws => PySem.call (.builtin "str.split") ws) ia := by
 intro A s σ vs ws Q P E ao R hv q hP
 replace q := onSS.elim q
 obtain ⟨x, y, rfl, q⟩ := q
 ·obtain ⟨wa, wb, rfl, h1, h2⟩ := hv.inv2
  cases h1 with | str _ t => cases h2 with | str _ u =>
  obtain ⟨⟨hy, hx⟩, q⟩ := q
  have hy0 : (y.length == 0) = false := by simp [hy]
  have hsz : (Builtin.Str.partsBetween x (Builtin.Str.occurrences x y 0 x.length (x.length + 1)) y.length).length ≤ 1048578 := by
   rw [length_partsBetween]
   have := StrLaws.occ_length_le x y 0 x.length (x.length + 1)
   exact Nat.succ_le_succ (Nat.le_trans this (Nat.succ_le_succ hx))
  have single : Txt.split x y = [x] → P (.ref s.heap.objs.size) { s with heap := s.heap.push { cls := .type "list", data := .seq [Value.str x t].toArray } } := fun e => by
   rw [e] at q
   exact iV (A := A) (tk := s.toks) R (.cons (.str x t) .nil) (by simp) q hP
  cases h1 : (decide (x.length < y.length) || decide (Builtin.Str.strKind x < Builtin.Str.strKind y))
  ·cases hf : (Builtin.Str.occurrences x y 0 x.length (x.length + 1)).isEmpty
   ·refine call_meets _root_.PySem.F.slot_str_split (typeIs_str _ _ _) _root_.PySem.F.entry_str_split (_root_.PySem.F.args_str_split_2 _ _) (meets_str_split_sep x y t u h1 hy0 hf (by rw [sizeLine_eq]; exact Nat.le_trans hx (by decide)) (by rw [sizeLine_eq]; exact Nat.le_trans hsz (by decide))) ?_
    have e : Txt.split x y = Builtin.Str.partsBetween x (Builtin.Str.occurrences x y 0 x.length (x.length + 1)) y.length := by unfold Txt.split; rw [h1, hf]; rfl
    rw [e] at q
    show wants P E _ { s with toks := _, heap := s.heap.push { cls := .type "list", data := .seq (strsFrom s.toks (Builtin.Str.partsBetween x (Builtin.Str.occurrences x y 0 x.length (x.length + 1)) y.length)).toArray } }
    rw [strsFrom_eq]
    refine iV (A := A) R ?_ (by rw [List.length_map]; exact Nat.le_trans hsz (by decide)) q hP
    have := nU (aS := C.aS) (h := s.heap) (numbered s.toks (Builtin.Str.partsBetween x (Builtin.Str.occurrences x y 0 x.length (x.length + 1)) y.length))
    rw [numbered_texts] at this
    exact this
   ·exact call_meets _root_.PySem.F.slot_str_split (typeIs_str _ _ _) _root_.PySem.F.entry_str_split (_root_.PySem.F.args_str_split_2 _ _) (meets_str_split_not_found x y t u h1 hy0 hf) (single (by unfold Txt.split; rw [h1, hf]; rfl))
  ·exact call_meets _root_.PySem.F.slot_str_split (typeIs_str _ _ _) _root_.PySem.F.entry_str_split (_root_.PySem.F.args_str_split_2 _ _) (meets_str_split_cannot_occur x y t u h1) (single (by unfold Txt.split; rw [h1]; rfl))
noncomputable def m5 (σ : ag) (Q : V → ag → Prop) : Option AObj → Prop
 | some (.list xs) => Q (.int xs.length) σ
 | some (.dict kvs _) => Q (.int kvs.length) σ
 | some (.idict kvs _) => Q (.int kvs.length) σ
 | _ => False
noncomputable def ci (ns : List Int) : bR
 | [.str x], σ, Q => x.length ≤ 16777216 ∧ Q (.int x.length) σ
 | [.ref a], σ, Q => m5 σ Q (σ a)
 | [.tup vs], σ, Q => vs.length ≤ 16777216 ∧ Q (.int vs.length) σ
 | [.script], σ, Q => Q (.int ns.length) σ
 | _, _, _ => False
theorem mD {n : Nat} (h : n ≤ 16777216) : (n : Int) < 2 ^ 63 := Int.lt_of_le_of_lt (Int.ofNat_le.mpr h) (by decide)
theorem xn (O : C.Ok) : nG C k (fun ws => PySem.call (.builtin "len") ws) (ci C.ns) := by
 intro A s σ vs ws Q P E ao R hv q hP
 cases vs with
 | nil => exact (show False from q).elim
 | cons v r =>
 cases r with
 | cons u r => cases v <;> exact (show False from q).elim
 | nil =>
 obtain ⟨wa, rfl, h1⟩ := hv.inv1
 have fin : ∀ (n : Int) (t tk : Tok), Q (.int n) σ → P (.int n t) { s with toks := tk } := fun n t tk q => hP _ _ σ _ (.int _ _) (R.tok _) Step.refl q
 clear hP
 cases h1 with
 | str x t => exact _root_.PySem.P.len_str (Int.not_le.mpr (mD q.1)) (fin _ _ _ q.2)
 | ref a =>
  have q : m5 σ Q (σ a) := q
  cases hx : σ a with
  | none => rw [hx] at q; exact q.elim
  | some o =>
   rw [hx] at q
   cases o with
   | list xs =>
    obtain ⟨hz, ws, h1, h2⟩ := R.view _ _ hx
    have e := h2.length
    refine Calls.call_len_list h1.isList (by rw [List.size_toArray, ← e]; exact mD hz) ?_
    rw [List.size_toArray, ← e]
    exact fin _ _ _ q
   | dict kvs ep =>
    obtain ⟨hz, ws, h1, h2⟩ := R.view _ _ hx
    have e := h2.length
    refine call_len_dict (O.noMods (R.apart _ (by rw [hx]; simp))) h1.dictOf (by rw [← e]; exact mD hz) ?_
    rw [← e]
    exact fin _ _ _ q
   | idict kvs ep =>
    obtain ⟨hz, ws, h1, h2⟩ := R.view _ _ hx
    have e := h2.length
    refine call_len_dict (O.noMods (R.apart _ (by rw [hx]; simp))) h1.dictOf (by rw [← e]; exact mD hz) ?_
    rw [← e]
    exact fin _ _ _ q
   | _ => exact (show False from q).elim
 | @tup vs a ws ht hvs =>
  have e := hvs.length
  refine PyProof.Rows.len_tuple (show PyProof.Rows.IsTup s.heap a ws.toArray from ht) (by rw [List.size_toArray, ← e]; exact mD q.1) ?_
  rw [List.size_toArray, ← e]
  exact fin _ _ _ q.2
 | script =>
  obtain ⟨ws, h1, h2, h3⟩ := O.script
  have hl : s.heap.IsList C.aS ws := h1.at fun o e => R.base _ _ e
  have e : (ws.size : Int) = C.ns.length := by rw [← h2]; simp
  refine Calls.call_len_list hl (by rw [e]; exact mD (Nat.le_trans O.few (by decide))) ?_
  rw [e]
  exact fin _ _ _ q
 | _ => exact (show False from q).elim
noncomputable def wH : V → ag → String → Option Bool
 | .bool _, _, T => if T = "bool" then some true else if T = "int" then some true else if T ∈ ["str", "list", "dict", "tuple"] then some false else Option.none
 | .int _, _, T => if T = "int" then some true else if T ∈ ["bool", "str", "list", "dict", "tuple"] then some false else Option.none
 | .str _, _, T => if T = "str" then some true else if T ∈ ["bool", "int", "list", "dict", "tuple"] then some false else Option.none
 | .tup _, _, T => if T = "tuple" then some true else if T ∈ ["bool", "int", "list", "dict", "str"] then some false else Option.none
 | .ref a, σ, T => match σ a with
  | some (.list _) => if T = "list" then some true else if T ∈ ["bool", "int", "tuple", "dict", "str"] then some false else Option.none
  | some (.dict _ _) => if T = "dict" then some true else if T ∈ ["bool", "int", "tuple", "list", "str"] then some false else Option.none
  | _ => Option.none
 | _, _, _ => Option.none
noncomputable def df : bR := fun vs σ Q => onVT vs fun v T => ∃ r, wH v σ T = some r ∧ Q (.bool r) σ
theorem uN {M : String → Prop} {a b c d e : String} (h1 : M a) (h2 : M b) (h3 : M c) (h4 : M d) (h5 : M e) : ∀ T ∈ [a, b, c, d, e], M T := by
 intro T h
 simp only [List.mem_cons, List.not_mem_nil, or_false] at h
 rcases h with rfl | rfl | rfl | rfl | rfl <;> assumption
theorem Az {M : String → Prop} {a b c d : String} (h1 : M a) (h2 : M b) (h3 : M c) (h4 : M d) : ∀ T ∈ [a, b, c, d], M T := by
 intro T h
 simp only [List.mem_cons, List.not_mem_nil, or_false] at h
 rcases h with rfl | rfl | rfl | rfl <;> assumption
theorem ey {M : String → Prop} {r : Bool} {T t : String} {l : List String} (hr : (if T = t then some true else if T ∈ l then some false else Option.none) = some r) (h1 : r = true → M t) (h2 : r = false → ∀ T ∈ l, M T) : M T := by
 split at hr
 ·rename_i e; cases hr; rw [e]; exact h1 rfl
 ·split at hr
  ·rename_i e; cases hr; exact h2 rfl T e
  ·cases hr
theorem si {M : String → Prop} {r : Bool} {T t u : String} {l : List String} (hr : (if T = t then some true else if T = u then some true else if T ∈ l then some false else Option.none) = some r) (h1 : r = true → M t) (h3 : r = true → M u) (h2 : r = false → ∀ T ∈ l, M T) : M T := by
 split at hr
 ·rename_i e; cases hr; rw [e]; exact h1 rfl
 ·exact ey hr h3 h2
theorem xo : nG C k (fun ws => PySem.call (.builtin "isinstance") ws) df := by
 intro A s σ vs ws Q P E ao R hv q hP
 replace q := onVT.elim q
 obtain ⟨v, T, rfl, q⟩ := q
 ·obtain ⟨wa, wb, rfl, h1, h2⟩ := hv.inv2
  cases h2
  obtain ⟨r, hr, q⟩ := q
  have p0 : r = true → P (.bool true) s := fun e => hP _ _ σ _ (.bool true) R Step.refl (e ▸ q)
  have p1 : r = false → P (.bool false) { s with toks := s.toks + 1 } := fun e => hP _ _ σ _ (.bool false) (R.tok _) Step.refl (e ▸ q)
  unfold wH at hr
  split at hr
  ·cases h1
   refine si (M := fun T => wpAny (model C.prog C.w) A (PySem.call (.builtin "isinstance") [_, .type T]) P E s) hr ?_ ?_ ?_
   ·intro e; exact IsiPair.bool_bool (p0 e)
   ·intro e; exact IsiPair.bool_int (p0 e)
   ·intro e; refine Az ?_ ?_ ?_ ?_
    ·exact IsiPair.bool_str (p1 e)
    ·exact IsiPair.bool_list (p1 e)
    ·exact IsiPair.bool_dict (p1 e)
    ·exact IsiPair.bool_tuple (p1 e)
  ·cases h1
   refine ey (M := fun T => wpAny (model C.prog C.w) A (PySem.call (.builtin "isinstance") [_, .type T]) P E s) hr ?_ ?_
   ·intro e; exact IsiPair.int_int (p0 e)
   ·intro e; refine uN ?_ ?_ ?_ ?_ ?_
    ·exact IsiPair.int_bool (p1 e)
    ·exact IsiPair.int_str (p1 e)
    ·exact IsiPair.int_list (p1 e)
    ·exact IsiPair.int_dict (p1 e)
    ·exact IsiPair.int_tuple (p1 e)
  ·cases h1
   refine ey (M := fun T => wpAny (model C.prog C.w) A (PySem.call (.builtin "isinstance") [_, .type T]) P E s) hr ?_ ?_
   ·intro e; exact IsiPair.str_str (p0 e)
   ·intro e; refine uN ?_ ?_ ?_ ?_ ?_
    ·exact IsiPair.str_bool (p1 e)
    ·exact IsiPair.str_int (p1 e)
    ·exact IsiPair.str_list (p1 e)
    ·exact IsiPair.str_dict (p1 e)
    ·exact IsiPair.str_tuple (p1 e)
  ·cases h1 with
   | @tup _ a ws ht hvs =>
   obtain ⟨o, ho, hc, _⟩ := ht
   refine ey (M := fun T => wpAny (model C.prog C.w) A (PySem.call (.builtin "isinstance") [_, .type T]) P E s) hr ?_ ?_
   ·intro e; exact IsiPair.tuple_tuple ho hc (p0 e)
   ·intro e; refine uN ?_ ?_ ?_ ?_ ?_
    ·exact IsiPair.tuple_bool ho hc (p1 e)
    ·exact IsiPair.tuple_int ho hc (p1 e)
    ·exact IsiPair.tuple_list ho hc (p1 e)
    ·exact IsiPair.tuple_dict ho hc (p1 e)
    ·exact IsiPair.tuple_str ho hc (p1 e)
  ·cases h1
   split at hr
   ·rename_i hx
    obtain ⟨hz, ws, ⟨n, hn⟩, h2⟩ := R.view _ _ hx
    refine ey (M := fun T => wpAny (model C.prog C.w) A (PySem.call (.builtin "isinstance") [_, .type T]) P E s) hr ?_ ?_
    ·intro e; exact IsiPair.list_list hn rfl (p0 e)
    ·intro e; refine uN ?_ ?_ ?_ ?_ ?_
     ·exact IsiPair.list_bool hn rfl (p1 e)
     ·exact IsiPair.list_int hn rfl (p1 e)
     ·exact IsiPair.list_tuple hn rfl (p1 e)
     ·exact IsiPair.list_dict hn rfl (p1 e)
     ·exact IsiPair.list_str hn rfl (p1 e)
   ·rename_i hx
    obtain ⟨hz, ws, ⟨o, es, hn, hc, _⟩, h2⟩ := R.view _ _ hx
    refine ey (M := fun T => wpAny (model C.prog C.w) A (PySem.call (.builtin "isinstance") [_, .type T]) P E s) hr ?_ ?_
    ·intro e; exact IsiPair.dict_dict hn hc.1 (p0 e)
    ·intro e; refine uN ?_ ?_ ?_ ?_ ?_
     ·exact IsiPair.dict_bool hn hc.1 (p1 e)
     ·exact IsiPair.dict_int hn hc.1 (p1 e)
     ·exact IsiPair.dict_tuple hn hc.1 (p1 e)
     ·exact IsiPair.dict_list hn hc.1 (p1 e)
     ·exact IsiPair.dict_str hn hc.1 (p1 e)
   ·cases hr
  ·cases hr
noncomputable def nZ : bR := fun vs σ Q => onII vs fun a b => Q (.int (min a b)) σ
noncomputable def n4 : bR := fun vs σ Q => onII vs fun a b => Q (.int (max a b)) σ
theorem xi (hz : C.held = Option.none) : nG C k (fun ws => PySem.call (.builtin "min") ws) nZ := by
 intro A s σ vs ws Q P E ao R hv q hP
 replace q := onII.elim q
 obtain ⟨a, b, rfl, q⟩ := q
 ·obtain ⟨wa, wb, rfl, h1, h2⟩ := hv.inv2
  cases h1; cases h2
  refine a7 (min_two_ints (ao.none hz) fun h' tk hk hz => ?_)
  have R' : RelG C σ { s with heap := h', toks := tk } := R.grow hk
  have S' : Step no σ σ s.heap h' := .grow hk hz
  by_cases c : b < a
  ·rw [if_pos c]; exact hP _ _ σ _ (.int _ _) R' S' (by rwa [Int.min_eq_right (by exact Int.le_of_lt c)] at q)
  ·rw [if_neg c]; exact hP _ _ σ _ (.int _ _) R' S' (by rwa [Int.min_eq_left (by exact Int.not_lt.mp c)] at q)
theorem xj (hz : C.held = Option.none) : nG C k (fun ws => PySem.call (.builtin "max") ws) n4 := by
 intro A s σ vs ws Q P E ao R hv q hP
 replace q := onII.elim q
 obtain ⟨a, b, rfl, q⟩ := q
 ·obtain ⟨wa, wb, rfl, h1, h2⟩ := hv.inv2
  cases h1; cases h2
  refine a7 (max_two_ints (ao.none hz) fun h' tk hk hz => ?_)
  have R' : RelG C σ { s with heap := h', toks := tk } := R.grow hk
  have S' : Step no σ σ s.heap h' := .grow hk hz
  by_cases c : b > a
  ·rw [if_pos c]; exact hP _ _ σ _ (.int _ _) R' S' (by rwa [Int.max_eq_right (by exact Int.le_of_lt c)] at q)
  ·rw [if_neg c]; exact hP _ _ σ _ (.int _ _) R' S' (by rwa [Int.max_eq_left (by exact Int.not_lt.mp c)] at q)
noncomputable def qO : bR := fun vs σ Q => onB vs fun b => Q (.int (if b then 1 else 0)) σ
theorem xq : nG C k (fun ws => PySem.call (.type "int") ws) qO := by
 intro A s σ vs ws Q P E ao R hv q hP
 replace q := onB.elim q
 obtain ⟨n0, rfl, q⟩ := q
 ·obtain ⟨wa, rfl, h1⟩ := hv.inv1
  cases h1
  exact call_int_bool (hP _ _ σ _ (.int _ _) (R.tok _) Step.refl q)
noncomputable def qN : bR := fun vs σ Q => onI vs fun i => i.natAbs.log2 < 1920 ∧ Q (.str (Str.ofString (toString i))) σ
theorem xe : nG C k (fun ws => PySem.call (.type "str") ws) qN := by
 intro A s σ vs ws Q P E ao R hv q hP
 replace q := onI.elim q
 obtain ⟨n0, rfl, q⟩ := q
 ·obtain ⟨wa, rfl, h1⟩ := hv.inv1
  cases h1
  exact _root_.PySem.P.str_of_int q.1 (hP _ _ σ _ (.str _ _) (R.tok _) Step.refl q.2)
end
end Mine
end
noncomputable section
namespace Mine
open PySem
section
variable {C : Cx} {sc : Scope} {k : Nat}
noncomputable def b0 : O2
 | .int x, .int y, σ, Q => Q (.int (x + y)) σ
 | .str x, .str y, σ, Q => x.length + y.length ≤ 16777216 ∧ Q (.str (x ++ y)) σ
 | .ref a, .ref b, σ, Q => ∃ xs ys, σ a = some (.list xs) ∧ σ b = some (.list ys) ∧ xs.length + ys.length ≤ 16777216 ∧ cJ (xs ++ ys) σ Q
 | _, _, _, _ => False
theorem bQ : hW C k (binaryOp .Add) b0 := by
 intro A s σ a b wa wb Q P E ao R va vb q hP
 cases a <;> first | exact q.elim | skip
 all_goals (cases b <;> first | exact q.elim | skip)
 ·cases va; cases vb
  exact _root_.PySem.P.add_int (hP _ _ σ _ (.int _ _) (R.tok _) Step.refl q)
 ·cases va; cases vb
  exact SB.add (fun t' tk => hP _ _ σ _ (.str _ _) (R.tok _) Step.refl q.2) (by rw [sizeLine_eq]; exact q.1)
 ·rename_i a b
  cases va; cases vb
  obtain ⟨xs, ys, hx, hy, hz, q⟩ := q
  obtain ⟨_, ws, ⟨n, h1⟩, h2⟩ := R.view _ _ hx
  obtain ⟨_, us, ⟨n', h3⟩, h4⟩ := R.view _ _ hy
  have e1 := h2.length
  have e2 := h4.length
  have e : ws.toArray ++ us.toArray = (ws ++ us).toArray := by simp
  refine concat_meets ⟨_, h1, rfl⟩ ⟨_, h3, rfl⟩ noFill_list_add seq_list_add _root_.PySem.F.slot_list_add _root_.PySem.F.entry_list_add (_root_.PySem.F.args_list_add_2 _ _)
   (PyProof.Rows.list_addW a b ws.toArray us.toArray n n' Option.none Option.none #[] #[] (by rw [List.size_toArray, List.size_toArray, sizeLine_eq]; exact dK fun hg => lN [(xs.length), (ys.length), (ws.length), (us.length)] 0x7302000000508c25384860c000000a129001 rfl hz (Nat.le_of_eq (Eq.symm e1)) (Nat.le_of_eq (Eq.symm e2)) hg)) ⟨h1, h3, ?_⟩
  rw [e]
  exact iV (A := A) (tk := s.toks) R (h2.append h4) (by rw [List.length_append]; exact hz) q hP
noncomputable def AA (f : V → V → Option Bool) : List V → List V → Option Bool
 | [], [] => some true
 | a :: as, b :: bs => match f a b, AA f as bs with
  | some x, some y => some (x && y)
  | _, _ => Option.none
 | _, _ => Option.none
theorem zr {A : Around} {s : Shared} {a b : V} {wa wb : Value} {r : Bool} (h : veq0 a b = some r) (va : VRel C.aS s.heap a wa) (vb : VRel C.aS s.heap b wb) : SeqAt.EqAt A s wa wb r := by
 revert va vb
 refine veq0.ind h (P := fun a b r => VRel C.aS s.heap a wa → VRel C.aS s.heap b wb → SeqAt.EqAt A s wa wb r) ?_ ?_ ?_ ?_ ?_ ?_ <;> intros <;> rename_i va vb <;> cases va <;> cases vb
 ·exact SeqAt.EqAt.same _
 ·exact SeqAt.EqAt.none_str _ _
 ·exact SeqAt.EqAt.str_none _ _
 ·exact SeqAt.EqAt.bool_bool _ _
 ·rw [← gl]; exact SeqAt.EqAt.int_int _ _ _ _
 ·rw [← gl]; exact SeqAt.EqAt.str_str _ _ _ _
noncomputable def fQ (x : V) : List V → Option Bool
 | [] => some false
 | y :: r => match veq0 y x, fQ x r with
  | some a, some b => some (a || b)
  | _, _ => Option.none
noncomputable def wK : Value → Value → Bool
 | .none, .none => true
 | .bool a, .bool b => a == b
 | .int a _, .int b _ => decide (a = b)
 | .str a _, .str b _ => decide (a = b)
 | _, _ => false
theorem uy {s : Shared} {a b : V} {wa wb : Value} {r : Bool} (h : veq0 a b = some r) (va : VRel C.aS s.heap a wa) (vb : VRel C.aS s.heap b wb) : wK wa wb = r := by
 revert va vb
 refine veq0.ind h (P := fun a b r => VRel C.aS s.heap a wa → VRel C.aS s.heap b wb → wK wa wb = r) ?_ ?_ ?_ ?_ ?_ ?_ <;> intros <;> rename_i va vb <;> cases va <;> cases vb <;> rfl
theorem iv {s : Shared} {A : Around} {x : V} {wx : Value} (hx : VRel C.aS s.heap x wx) : ∀ {ys : List V} {ws : List Value} {r : Bool}, fQ x ys = some r → VRels C.aS s.heap ys ws →
  (∀ w ∈ ws, SeqAt.EqAt A s w wx (wK w wx)) ∧ ws.any (fun w => wK w wx) = r
 | [], _, r, h, hn => by cases h; rw [hn.inv0]; exact ⟨fun _ hw => (nomatch hw), rfl⟩
 | y :: ys, _, r, h, hc => by
  obtain ⟨w, ws, rfl, hy, hr⟩ := hc.invC
  unfold fQ at h
  split at h
  ·rename_i a b h1 h2
   cases h
   obtain ⟨i1, i2⟩ := iv (A := A) hx h2 hr
   refine ⟨fun w' hw => ?_, ?_⟩
   ·rcases List.mem_cons.mp hw with rfl | hw
    ·rw [uy h1 hy hx]; exact zr h1 hy hx
    ·exact i1 w' hw
   ·rw [List.any_cons, i2, uy h1 hy hx]
  ·cases h
noncomputable def tA : O2
 | x, .ref a, σ, Q => ∃ ys r, σ a = some (.list ys) ∧ fQ x ys = some r ∧ Q (.bool r) σ
 | x, .tup ys, σ, Q => ∃ r, fQ x ys = some r ∧ Q (.bool r) σ
 | _, _, _, _ => False
noncomputable def ic : O2
 | x, .ref a, σ, Q => ∃ ys r, σ a = some (.list ys) ∧ fQ x ys = some r ∧ Q (.bool (!r)) σ
 | x, .tup ys, σ, Q => ∃ r, fQ x ys = some r ∧ Q (.bool (!r)) σ
 | _, _, _, _ => False
theorem xu : hW C k (compareOp .In) tA := by
 intro A s σ a b wa wb Q P E ao R va vb q hP
 cases b <;> first | exact q.elim | skip
 ·cases vb
  obtain ⟨ys, r, hy, hr, q⟩ := q
  obtain ⟨_, ws, h1, h2⟩ := R.view _ _ hy
  obtain ⟨i1, i2⟩ := iv (A := A.in1) va hr h2
  refine SeqAt.in_listAt (fun w => wK w wa) h1.isList (fun y hy => i1 y (by simpa using hy)) ?_
  rw [← Array.any_toList, i2]
  exact hP _ _ σ s (.bool r) R Step.refl q
 ·cases vb with | @tup _ p ws ht hvs =>
  obtain ⟨r, hr, q⟩ := q
  obtain ⟨i1, i2⟩ := iv (A := A.in1) va hr hvs
  refine SeqAt.in_tupleAt (fun w => wK w wa) ht (fun y hy => i1 y (by simpa using hy)) ?_
  rw [← Array.any_toList, i2]
  exact hP _ _ σ s (.bool r) R Step.refl q
theorem l6 : hW C k (compareOp .NotIn) ic := by
 intro A s σ a b wa wb Q P E ao R va vb q hP
 cases b <;> first | exact q.elim | skip
 ·cases vb
  obtain ⟨ys, r, hy, hr, q⟩ := q
  obtain ⟨_, ws, h1, h2⟩ := R.view _ _ hy
  obtain ⟨i1, i2⟩ := iv (A := A.in1) va hr h2
  refine SeqAt.notIn_listAt (fun w => wK w wa) h1.isList (fun y hy => i1 y (by simpa using hy)) ?_
  rw [← Array.any_toList, i2]
  exact hP _ _ σ s (.bool (!r)) R Step.refl q
 ·cases vb with | @tup _ p ws ht hvs =>
  obtain ⟨r, hr, q⟩ := q
  obtain ⟨i1, i2⟩ := iv (A := A.in1) va hr hvs
  refine SeqAt.notIn_tupleAt (fun w => wK w wa) ht (fun y hy => i1 y (by simpa using hy)) ?_
  rw [← Array.any_toList, i2]
  exact hP _ _ σ s (.bool (!r)) R Step.refl q
noncomputable def bg : bR := fun vs σ Q => onRV vs fun a v => ∃ xs, σ a = some (.list xs) ∧ xs.length < 16777216 ∧ Q .none (a8 σ a (.list (xs ++ [v])))
theorem rX : nG C k (fun ws => PySem.call (.builtin "list.append") ws) bg := by
 intro A s σ vs ws Q P E ao R hv q hP
 replace q := onRV.elim q
 obtain ⟨a, v, rfl, q⟩ := q
 ·obtain ⟨wa, wb, rfl, h1, h2⟩ := hv.inv2
  cases h1
  obtain ⟨xs, hx, hz, q⟩ := q
  obtain ⟨_, ws, h3, h4⟩ := R.view _ _ hx
  have e := h4.length
  refine wpAny_list_append_plain h3 (fun h' hp' hs' => ?_) (by rw [List.size_toArray, ← e, sizeLine_eq]; (rename_i zz0; exact zz0))
  obtain ⟨n, hn⟩ := h3
  have kt : a0 s.heap h' := fun b o eb ht => hs'.extBut b o (by rintro rfl; rw [hn] at eb; cases eb; simp [jN] at ht) eb
  refine hP .none .none (a8 σ a (.list (xs ++ [v]))) _ .none (R.change (tk := s.toks) hx hs' ⟨by simp; exact Nat.le_of_lt_succ hz, ws ++ [wb], by simpa using hp', (h4.append (.cons h2 .nil)).keep kt⟩) (.change hx hs') q
noncomputable def bA (op : V → V → V → ag → (ag → Prop) → Prop) (T To Ti : ET) : ST := fun m σ Q => T m σ fun v σ₁ => To m σ₁ fun o σ₂ => Ti m σ₂ fun i σ₃ => op o i v σ₃ fun σ₄ => Q .next m σ₄
noncomputable def uP (C : Cx) (k : Nat) (op : V → V → V → ag → (ag → Prop) → Prop) : Prop :=
 ∀ (A : Around) (s : Shared) (σ : ag) (o i v : V) (wo wi w : Value) (Q : ag → Prop) (P : Unit → Shared → Prop) (E : Value → Shared → Prop), AOk C A k → RelG C σ s → VRel C.aS s.heap o wo → VRel C.aS s.heap i wi → VRel C.aS s.heap v w → op o i v σ Q →
  (∀ σ' s', RelG C σ' s' → Step no σ σ' s.heap s'.heap → Q σ' → P () s') → wpAny (model C.prog C.w) A (setItem wo wi w) P E s
theorem bV {o i value : Expr} {p pos : Pos} {op : V → V → V → ag → (ag → Prop) → Prop} {T To Ti : ET} (hop : uP C k op) (hv : HE C sc k value T) (ho : HE C sc k o To) (hi : HE C sc k i Ti)
  (hs : ∀ env, EnvOk env sc → swapsWith value (some (.Subscript o i p)) pos.line env = pure false) : HS1 C sc k (.Assign [.Subscript o i p] value pos) (bA op T To Ti) := by
 refine ⟨?_⟩; intro env A s m σ Q P E en ao R F q hP
 refine wpAny_Assign_Subscript (hv.run env A s m σ _ _ E en ao R F q fun v w σ₁ s₁ v1 R₁ S₁ q₁ => ?_) (hs env en)
 have F₁ := F.step R S₁
 refine ho.run env A s₁ m σ₁ _ _ E en ao R₁ F₁ q₁ fun o wo σ₂ s₂ v2 R₂ S₂ q₂ => ?_
 have F₂ := F₁.step R₁ S₂
 refine hi.run env A s₂ m σ₂ _ _ E en ao R₂ F₂ q₂ fun i wi σ₃ s₃ v3 R₃ S₃ q₃ => ?_
 have F₃ := F₂.step R₂ S₃
 have k₂ := S₂.tupsN R₁
 have k₃ := S₃.tupsN R₂
 refine hop A s₃ σ₃ o i v wo wi w _ _ E ao R₃ (v2.keep k₃) v3 ((v1.keep k₂).keep k₃) q₃ fun σ₄ s₄ R₄ S₄ q₄ => ?_
 have S := ((S₁.trans S₂).trans S₃).trans S₄
 exact hP .next .next m σ₄ s₄ .next R₄ (F.step R S) S.own q₄
noncomputable def du (l : List (String × Pos)) : List Expr := l.map fun p => Expr.Name (Str.ofString p.1) p.2
theorem mv (p : String × Pos) (l : List (String × Pos)) (env : Env) : assignEach (du (p :: l)) env = (false, assign (.Name (Str.ofString p.1) p.2) env) :: assignEach (du l) env := rfl
theorem ir (env : Env) : ∀ (l : List (String × Pos)), (assignEach (du l) env).length = l.length ∧ (assignEach (du l) env).findIdx? (·.1) = Option.none
 | [] => ⟨rfl, rfl⟩
 | p :: r => by
  rw [mv]
  refine ⟨by simp [(ir env r).1], ?_⟩
  rw [List.findIdx?_cons]
  simp [(ir env r).2]
theorem oS {env : Env} {A : Around} {E : Value → Shared → Prop} (en : EnvOk env sc) (l : List (String × Pos)) : ∀ (vs : List V) (ws : List Value) (s : Shared) (m : aU) (σ : ag) (P : Unit → Shared → Prop), l.length = vs.length → (∀ x ∈ l, sc.names.lookup (Str.ofString x.1) = some .local) →
  RelG C σ s → FrameRel C env m σ s.heap → VRels C.aS s.heap vs ws →
  (∀ s', RelG C σ s' → FrameRel C env (aG (l.map (·.1)) vs m) σ s'.heap → Step (fun b => b = env.locals) σ σ s.heap s'.heap → P () s') →
  wpAny (model C.prog C.w) A (assignInOrder ((assignEach (du l) env).map (·.2)) ws) P E s := by
 induction l with
 | nil =>
  intro vs ws s m σ P h1 h2 R F hv h
  cases vs with
  | nil => cases hv; exact wpAny_pure (h s R F Step.refl)
  | cons => simp at h1
 | cons x l ih =>
  intro vs ws s m σ P h1 h2 R F hv h
  cases vs with
  | nil => simp at h1
  | cons v vs =>
   cases hv with | @cons _ w _ ws hv hvs =>
   rw [mv, List.map_cons]
   have e : assignInOrder (assign (.Name (Str.ofString x.1) x.2) env :: (assignEach (du l) env).map (·.2)) (w :: ws) = (do holding ws (assign (.Name (Str.ofString x.1) x.2) env w); assignInOrder ((assignEach (du l) env).map (·.2)) ws) := by rw [assignInOrder]
   show wpAny _ A (assignInOrder (assign (.Name (Str.ofString x.1) x.2) env :: (assignEach (du l) env).map (·.2)) (w :: ws)) P E s
   rw [e]
   refine wpAny_bind (wpAny_holding (wpAny_assign_Name (dS en R F (h2 x (.head _)) hv fun s₁ R₁ F₁ S₁ => ?_)))
   have kt : a0 s.heap s₁.heap := S₁.tups R fun b o z e => by subst z; exact F.ownT _ o (.inl rfl) e
   exact ih vs ws s₁ (put m x.1 v) σ P (by simpa using h1) (fun y hy => h2 y (.tail _ hy)) R₁ F₁ (hvs.keep kt) fun s₂ R₂ F₂ S₂ => h s₂ R₂ F₂ (S₁.trans S₂)
theorem FrameRel.grow {env : Env} {m : aU} {σ : ag} {h h' : Heap} (F : FrameRel C env m σ h) (keep : ∀ b o, h.get? b = some o → h'.get? b = some o) : FrameRel C env m σ h' := by
 have kt : a0 h h' := fun b o e _ => keep b o e
 have kc : ∀ c v, h.IsCell c v → h'.IsCell c v := fun c v ⟨o, ho, hd⟩ => ⟨o, keep c o ho, hd⟩
 obtain ⟨mm, hn, hv⟩ := F.ns
 refine ⟨⟨mm, hn.keeps keep, fun x v e k => ?_⟩, fun x v e => ?_, fun n c e => ?_, F.sepL, F.baseL, F.baseC, F.dist, F.has⟩
 ·obtain ⟨w, h1, h2⟩ := hv x v e k; exact ⟨w, h1, h2.keep kt⟩
 ·rcases F.cel x v e with q | ⟨q, c, w, h1, h2, h3⟩
  ·exact .inl q
  ·exact .inr ⟨q, c, w, h1, kc _ _ h2, h3.keep kt⟩
 ·obtain ⟨v, hv⟩ := F.cells n c e; exact ⟨v, kc _ _ hv⟩
theorem yi (O : C.Ok) {l : List (String × Pos)} {n : Nat} {pos : Pos} (hx : ∀ x ∈ l, sc.names.lookup (Str.ofString x.1) = some .local) : HT C sc k true (.Tuple (du l) n pos) (.tup (l.map (·.1))) := by
 refine ⟨?_⟩; intro env A s m m' σ v w P E en ao R F hv hb hP
 cases v <;> simp only [eE] at hb <;> first | cases hb | skip
 split at hb
 ·rename_i vs hlen
  cases hb
  cases hv with | @tup _ t ws ht hvs =>
  have hlen' : l.length = vs.length := by simpa using hlen
  refine a7 (we (ao.hd O R) ht (by rw [(ir env _).1, List.size_toArray, ← hvs.length, hlen']) (ir env _).2 fun h' hx' => ?_)
  have keep : ∀ b o, s.heap.get? b = some o → h'.get? b = some o := fun b o e => hx' b o (Nat.ne_of_lt (Heap.lt_size e)) e
  have e : ws.toArray.toList = ws := by simp
  rw [e]
  refine oS en l vs ws _ m σ _ hlen' hx (R.grow (tk := s.toks) keep) (F.grow keep) (hvs.keep fun b o e _ => keep b o e) fun s₂ R₂ F₂ S₂ hsz => ?_
  exact hP s₂ R₂ F₂ ⟨fun b o e n q => S₂.keepL b o (keep b o e) n fun z => q (.inl z), hsz, fun _ a b => absurd a b⟩
 ·cases hb
end
end Mine
end
noncomputable section
set_option tactic.hygienic false
namespace Mine
open PySem PySem.W PyProof.Rows PySem.Calls
noncomputable def bv (p : Program) (n : Nat) : List Stmt := match p.main.body[n]? with | some (.FunctionDef _ _ b _ _ _ _ _ _ _) => b | _ => []
noncomputable def aP (p : Program) (n : Nat) : Scope := match p.main.body[n]? with | some (.FunctionDef _ _ _ _ _ _ s _ _ _) => s | _ => default
noncomputable def mZ (p : Program) (n : Nat) : Arguments := match p.main.body[n]? with | some (.FunctionDef _ a _ _ _ _ _ _ _ _) => a | _ => default
noncomputable def wF (p : Program) (n : Nat) : Pos := match p.main.body[n]? with | some (.FunctionDef _ _ _ _ _ _ _ _ _ q) => q | _ => default
noncomputable def FnAt (C : Cx) (j : Nat) (f : String) (spec : bR) : Prop :=
 ∃ a o fd, C.mg (Str.ofString f) = some (.ref a) ∧ C.hB.get? a = some o ∧ o.data = .func fd ∧ FnSound C j a spec
structure Gl (C : Cx) (p : Program) : Prop where
 ok : C.Ok
 mb : ∀ x : Str, x ≠ "__name__" → C.mb x = bootBuiltins x
 free : ∀ x ∈ ["len", "range", "min", "max", "isinstance", "bool", "str", "int", "list", "dict", "set", "sorted", "tuple", "sum", "type"], C.mg (Str.ofString x) = Option.none
 fn : ∀ d ∈ recsOf p, ∃ a o pm code doc, C.mg d.name = some (.ref a) ∧ C.hB.get? a = some o ∧ o.data = .func (docDef d.name d.params d.body d.scope pm code doc) ∧ C.hB.CodeRec code d.name
variable {C : Cx} {p : Program}
theorem Gl.blt (G : Gl C p) {x : String} {v : Value} (h : bootBuiltins (Str.ofString x) = some v) (hx : x ≠ "__name__") : C.mb (Str.ofString x) = some v := by
 rw [G.mb _ (fun e => hx (cn e)), h]
theorem aR (G : Gl C p) {sc : Scope} {k : Nat} {f : String} {np pos : Pos} {es : List Expr} {L : LT} {spec : bR} {j : Nat} (hf : FnAt C j f spec) (hj : j < k)
  (hn : sc.names.lookup (Str.ofString f) = some .globalImplicit) (hdb : (Str.ofString f == ("__debug__" : Str)) = false)
  (hl : HL C sc k es L) (hp : aD es = true) : HE C sc k (.Call (.Name (Str.ofString f) np) es [] pos) (aM spec L) := by
 obtain ⟨a, o, fd, h1, h2, h3, h4⟩ := hf
 exact wv G.ok h4 hj hn h1 h2 h3 hdb hl hp
theorem FnAt.mk (G : Gl C p) (i n : Nat) {f : String} {xs : List String} {j : Nat} {spec : bR} {T : ST}
  (hm : (recsOf p)[i]? = some ⟨Str.ofString f, mZ p n, bv p n, aP p n, wF p n⟩)
  (hk : (aP p n).kind = .function) (hfr : ((aP p n).names.all fun q => q.2 != .free) = true) (hco : (aP p n).isCoroutine = false) (hgen : (aP p n).isGenerator = false)
  (hbind : ∀ (ws : List Value) (pm code doc : Value), ws.length = xs.length → bindArgs (docDef (Str.ofString f) (mZ p n) (bv p n) (aP p n) pm code doc) ⟨ws, []⟩ = pure ((xs.map Str.ofString).zip ws))
  (hloc : (xs.all fun x => (aP p n).names.lookup (Str.ofString x) == some .local || (aP p n).names.lookup (Str.ofString x) == some .cell) = true)
  (hT : HS C (aP p n) j (bv p n) T)
  (hspec : ∀ vs σ Q, spec vs σ Q → vs.length = xs.length ∧ T (aG xs vs aN) σ fun f _ σ' => match f with | .ret v => Q v σ' | .next => Q .none σ' | _ => False) : FnAt C j f spec := by
 obtain ⟨a, o, pm, code, doc, h1, h2, h3, h4⟩ := G.fn _ (List.mem_of_getElem? hm)
 refine ⟨a, o, _, h1, h2, h3, FnSound.mk G.ok (xs := xs) h2 h3 h4 rfl rfl rfl rfl rfl hk ?_ hco hgen (fun ws hw => hbind ws pm code doc hw) ?_ hT hspec⟩
 ·intro q hq
  have := List.all_eq_true.mp hfr q hq
  simpa using this
 ·intro x hx
  have := List.all_eq_true.mp hloc x hx
  simp only [Bool.or_eq_true, beq_iff_eq] at this
  exact this
theorem ox {vs : List Value} {ns : List Int} (h : IntsAre vs ns) : vs.length = ns.length ∧ ∀ (i : Nat) n, ns[i]? = some n → ∃ t, vs[i]? = some (Value.int n t) := by
 induction h with
 | nil => exact ⟨rfl, fun i n e => by simp at e⟩
 | cons a t h ih =>
  refine ⟨by simp [ih.1], fun i n e => ?_⟩
  cases i with
  | zero => simp at e; subst e; exact ⟨_, rfl⟩
  | succ i => simpa using ih.2 i n (by simpa using e)
theorem Cx.ok_of {C : Cx} (hz : C.held = none) {vs : List Value} {loose : List Str} {mean : ExcName → Option Value} (T : Top p loose mean C.mg C.mb C.hB) (hi : importsNone p = true) (hL : C.hB.IsList C.aS vs.toArray) (hI : IntsAre vs C.ns) (hn : ¬ (63 : Int) < (C.ns.length : Int)) : C.Ok where
 g := T.g
 b := T.b
 nolimit := T.nolimit
 mods := by obtain ⟨mm, ⟨o, _, _, ho, _⟩, _⟩ := (T.seer hi).mods; exact ⟨o, ho⟩
 few := by omega
 heldOk := fun e he => by rw [hz] at he; cases he
 script := ⟨_, hL, by simpa using (ox hI).1, by simpa using (ox hI).2⟩
theorem Gl.of {C : Cx} {loose : List Str} {mean : ExcName → Option Value} (T : Top p loose mean C.mg C.mb C.hB) (ok : C.Ok)
  (hf : (["len", "range", "min", "max", "isinstance", "bool", "str", "int", "list", "dict", "set", "sorted", "tuple", "sum", "type"].all fun x : String => !(startupNames ++ loose ++ (recsOf p).map (·.name) ++ (litsOf p).map (·.1) ++ (clssOf p loose).map (·.name)).contains (Str.ofString x)) = true) : Gl C p where
 ok := ok
 mb := T.builtins
 fn := T.fn
 free := fun x hx => by
  have := List.all_eq_true.mp hf x hx
  simp only [Bool.not_eq_true', List.contains_eq_mem, decide_eq_false_iff_not, List.mem_append, not_or] at this
  obtain ⟨⟨⟨⟨h1, h2⟩, h3⟩, h4⟩, h5⟩ := this
  exact T.free _ h1 h2 h3 h4 h5
end Mine
end
noncomputable section
set_option tactic.hygienic false
namespace Mine
open PySem PySem.W PyProof.Rows PySem.Calls
section
variable {C : Cx} {p : Program} {sc : Scope} {k : Nat}
theorem x7 : bootBuiltins (Str.ofString "len") = some (.builtin "len") := by decide +kernel
theorem xZ : bootBuiltins (Str.ofString "min") = some (.builtin "min") := by decide +kernel
theorem uI : bootBuiltins (Str.ofString "max") = some (.builtin "max") := by decide +kernel
theorem x8 : bootBuiltins (Str.ofString "isinstance") = some (.builtin "isinstance") := by decide +kernel
theorem oQ : bootBuiltins (Str.ofString "range") = some (.type "range") := by decide +kernel
theorem v7 : bootBuiltins (Str.ofString "bool") = some (.type "bool") := by decide +kernel
theorem xW : bootBuiltins (Str.ofString "str") = some (.type "str") := by decide +kernel
theorem uJ : bootBuiltins (Str.ofString "int") = some (.type "int") := by decide +kernel
theorem nj : bootBuiltins (Str.ofString "list") = some (.type "list") := by decide +kernel
theorem v6 : bootBuiltins (Str.ofString "dict") = some (.type "dict") := by decide +kernel
theorem cD (G : Gl C p) {np pos : Pos} {es : List Expr} {L : LT} (hn : sc.names.lookup (Str.ofString "len") = some .globalImplicit) (hl : HL C sc k es L) (hp : aD es = true) : HE C sc k (.Call (.Name (Str.ofString "len") np) es [] pos) (aM (ci C.ns) L) :=
 c7 G.ok (xn G.ok) hn (G.free _ (by decide)) (G.blt x7 (by decide)) rfl hl hp
theorem ri (G : Gl C p) (hz : C.held = Option.none) {np pos : Pos} {es : List Expr} {L : LT} (hn : sc.names.lookup (Str.ofString "min") = some .globalImplicit) (hl : HL C sc k es L) (hp : aD es = true) : HE C sc k (.Call (.Name (Str.ofString "min") np) es [] pos) (aM nZ L) :=
 c7 G.ok (xi hz) hn (G.free _ (by decide)) (G.blt xZ (by decide)) rfl hl hp
theorem rj (G : Gl C p) (hz : C.held = Option.none) {np pos : Pos} {es : List Expr} {L : LT} (hn : sc.names.lookup (Str.ofString "max") = some .globalImplicit) (hl : HL C sc k es L) (hp : aD es = true) : HE C sc k (.Call (.Name (Str.ofString "max") np) es [] pos) (aM n4 L) :=
 c7 G.ok (xj hz) hn (G.free _ (by decide)) (G.blt uI (by decide)) rfl hl hp
theorem qC (G : Gl C p) {np pos : Pos} {es : List Expr} {L : LT} (hn : sc.names.lookup (Str.ofString "isinstance") = some .globalImplicit) (hl : HL C sc k es L) (hp : aD es = true) : HE C sc k (.Call (.Name (Str.ofString "isinstance") np) es [] pos) (aM df L) :=
 c7 G.ok xo hn (G.free _ (by decide)) (G.blt x8 (by decide)) rfl hl hp
theorem wq (G : Gl C p) {np pos : Pos} {es : List Expr} {L : LT} (hn : sc.names.lookup (Str.ofString "int") = some .globalImplicit) (hl : HL C sc k es L) (hp : aD es = true) : HE C sc k (.Call (.Name (Str.ofString "int") np) es [] pos) (aM qO L) :=
 iO G.ok xq hn (G.free _ (by decide)) (G.blt uJ (by decide)) rfl hl hp
theorem wm (G : Gl C p) {np pos : Pos} {es : List Expr} {L : LT} (hn : sc.names.lookup (Str.ofString "str") = some .globalImplicit) (hl : HL C sc k es L) (hp : aD es = true) : HE C sc k (.Call (.Name (Str.ofString "str") np) es [] pos) (aM qN L) :=
 iO G.ok xe hn (G.free _ (by decide)) (G.blt xW (by decide)) rfl hl hp
theorem je (G : Gl C p) (hz : C.held = Option.none) {np pos : Pos} {es : List Expr} {L : LT} (hn : sc.names.lookup (Str.ofString "range") = some .globalImplicit) (hl : HL C sc k es L) (hp : aD es = true) : HI C sc k (.Call (.Name (Str.ofString "range") np) es [] pos) (eY L) :=
 uR G.ok hz hl hp hn (G.free _ (by decide)) (G.blt oQ (by decide))
theorem uU (G : Gl C p) {pos : Pos} (h : sc.names.lookup (Str.ofString "bool") = some .globalImplicit) : HE C sc k (.Name (Str.ofString "bool") pos) (az (.ty "bool")) := qD G.ok h (G.free _ (by decide)) (G.blt v7 (by decide)) rfl
theorem wt (G : Gl C p) {pos : Pos} (h : sc.names.lookup (Str.ofString "int") = some .globalImplicit) : HE C sc k (.Name (Str.ofString "int") pos) (az (.ty "int")) := qD G.ok h (G.free _ (by decide)) (G.blt uJ (by decide)) rfl
theorem uT (G : Gl C p) {pos : Pos} (h : sc.names.lookup (Str.ofString "list") = some .globalImplicit) : HE C sc k (.Name (Str.ofString "list") pos) (az (.ty "list")) := qD G.ok h (G.free _ (by decide)) (G.blt nj (by decide)) rfl
theorem pr {o : Expr} {apos pos : Pos} {es : List Expr} {To : ET} {L : LT} (ho : HE C sc k o To) (hl : HL C sc k es L) (hp : aD es = true)
  (hbase : ∀ env, attributeBase o (Str.ofString "split") env (eval o env) = eval o env) (hline : (apos.endLine == pos.line) = true) (hfew : es.length < 30) : HE C sc k (.Call (.Attribute o (Str.ofString "split") apos) es [] pos) (a6 ej ia To L) :=
 gy j2 F.plainAttrs_str F.slot_str_split F.type_str_split tE ho hl hp hbase hline hfew
theorem rk {o : Expr} {apos pos : Pos} {es : List Expr} {To : ET} {L : LT} (ho : HE C sc k o To) (hl : HL C sc k es L) (hp : aD es = true)
  (hbase : ∀ env, attributeBase o (Str.ofString "join") env (eval o env) = eval o env) (hline : (apos.endLine == pos.line) = true) (hfew : es.length < 30) : HE C sc k (.Call (.Attribute o (Str.ofString "join") apos) es [] pos) (a6 ej j8 To L) :=
 gy j2 F.plainAttrs_str F.slot_str_join F.type_str_join vB ho hl hp hbase hline hfew
theorem jf {o : Expr} {apos pos : Pos} {es : List Expr} {To : ET} {L : LT} (ho : HE C sc k o To) (hl : HL C sc k es L) (hp : aD es = true)
  (hbase : ∀ env, attributeBase o (Str.ofString "startswith") env (eval o env) = eval o env) (hline : (apos.endLine == pos.line) = true) (hfew : es.length < 30) : HE C sc k (.Call (.Attribute o (Str.ofString "startswith") apos) es [] pos) (a6 ej dF To L) :=
 gy j2 F.plainAttrs_str F.slot_str_startswith F.type_str_startswith rU ho hl hp hbase hline hfew
theorem bS {o : Expr} {apos pos : Pos} {es : List Expr} {To : ET} {L : LT} (ho : HE C sc k o To) (hl : HL C sc k es L) (hp : aD es = true)
  (hbase : ∀ env, attributeBase o (Str.ofString "append") env (eval o env) = eval o env) (hline : (apos.endLine == pos.line) = true) (hfew : es.length < 30) : HE C sc k (.Call (.Attribute o (Str.ofString "append") apos) es [] pos) (a6 ca bg To L) :=
 gy rx F.plainAttrs_list F.slot_list_append F.type_list_append rX ho hl hp hbase hline hfew
theorem aZ (G : Gl C p) {value slice : Expr} {pos : Pos} {T U : ET} (hv : HE C sc k value T) (hi : HE C sc k slice U) (hs : eX slice = false) : HE C sc k (.Subscript value slice pos) (ax (aL C.ns) T U) :=
 qz hv hi (vC G.ok hs)
noncomputable def uG (sc cs : Scope) (fv gs : List String) : Bool :=
 cs.kind == .function && cs.names.all (fun y => y.2 != .cell) && cs.names.all (fun y => y.2 != .local || cs.names.lookup y.1 == some .local) && decide (cs.names.map (·.1)).Nodup &&
 cs.names.all (fun q => q.2 != .free || fv.any fun x => Str.ofString x == q.1) && fv.all (fun x => cs.names.contains (Str.ofString x, NameKind.free) && (sc.names.lookup (Str.ofString x) == some .cell || sc.names.lookup (Str.ofString x) == some .free)) && gs.all fun x => !fv.contains x
theorem CompOk.of {sc cs : Scope} {fv : List String} {g : Tgt} (h : uG sc cs fv g.names = true) : CompOk sc cs fv g := by
 unfold uG at h
 simp only [Bool.and_eq_true, List.all_eq_true, Bool.or_eq_true, bne_iff_ne, beq_iff_eq, decide_eq_true_eq, List.any_eq_true, Bool.not_eq_true', List.contains_eq_mem, decide_eq_false_iff_not] at h
 obtain ⟨⟨⟨⟨⟨⟨h1, h2⟩, h3⟩, h4⟩, h5⟩, h6⟩, h7⟩ := h
 refine ⟨h1, h2, fun y hy e => (h3 y hy).elim (fun n => absurd e n) id, h4, fun q hq e => (h5 q hq).elim (fun n => absurd e n) id, fun x hx => ⟨(h6 x hx).1, (h6 x hx).2⟩, h7⟩
theorem nS {elt : Expr} {gens : List Comprehension} {cs : Scope} {pos : Pos} {t : Str} {q : Pos} {line : Nat} (h : sc.names.lookup t = some .local) (hl : (q.line == pos.line) = true) (hn : (cs.names.any fun y => y.1 == t && (y.2 == .local || y.2 == .cell)) = false) :
  ∀ env, EnvOk env sc → swapsWith (.ListComp elt gens cs pos) (some (.Name t q)) line env = pure true := by
 intro env en
 unfold swapsWith
 have e : env.kindOf t = some .local := en.of h
 have e2 : env.blockKind = .function := by unfold Env.blockKind; rw [en.k]; rfl
 have e3 : (Expr.ListComp elt gens cs pos).pos.line = pos.line := rfl
 simp only [e, e2, e3, hl, hn]
 rfl
end
end Mine
end
noncomputable section
set_option tactic.hygienic false
namespace Mine
open PySem PySem.W PyProof.Rows PySem.Calls
noncomputable def Grow (σ σ' : ag) : Prop := ∀ b o, σ b = some o → σ' b = some o
theorem Grow.refl {σ : ag} : Grow σ σ := fun _ _ e => e
theorem Grow.trans {σ₁ σ₂ σ₃ : ag} (h : Grow σ₁ σ₂) (h' : Grow σ₂ σ₃) : Grow σ₁ σ₃ := fun b o e => h' b o (h b o e)
theorem Grow.upd {σ σ' : ag} {a : Addr} {o : AObj} (h : Grow σ σ') (ha : σ' a = Option.none) : Grow σ (a8 σ' a o) := fun b o' e => by
 rw [u6 ha (h b o' e)]
noncomputable def gR (xs : List V) (σ : ag) (Q : V → ag → Prop) : Prop := ∀ a σ', Grow σ σ' → σ a = Option.none → σ' a = some (.list xs) → Q (.ref a) σ'
theorem Grow.none {σ σ' : ag} (h : Grow σ σ') {a : Addr} (ha : σ' a = Option.none) : σ a = Option.none := by
 cases e : σ a with
 | none => rfl
 | some o => rw [h a o e] at ha; cases ha
theorem gj {g : Tgt} {inv : ag → Prop} {T : ET} {m : aU} (P : ag → Prop) (hinv : ∀ σ, P σ → inv σ) :
  ∀ (items ys acc : List V) (σ : ag) (Q : List V → ag → Prop), ys.length = items.length → acc.length + items.length ≤ 1048576 →
  (∀ (i : Nat) v y, items[i]? = some v → ys[i]? = some y → ∀ σ (Q' : V → ag → Prop), P σ → (∀ σ', P σ' → Q' y σ') → ∃ m', eE g v m = some m' ∧ T m' σ Q') →
  P σ → (∀ σ', P σ' → Q (acc ++ ys) σ') → dN g inv tT T m items acc σ Q
 | [], ys, acc, σ, Q, hl, hz, step, p, q => by
  have : ys = [] := List.length_eq_zero_iff.mp hl
  subst this
  simp only [dN]
  exact ⟨hinv σ p, by simpa using q σ p⟩
 | v :: r, [], acc, σ, Q, hl, hz, step, p, q => by simp at hl
 | v :: r, y :: ys, acc, σ, Q, hl, hz, step, p, q => by
  simp only [dN]
  obtain ⟨m', h1, h2⟩ := step 0 v y rfl rfl σ (fun y σ₂ => acc.length < 1048576 ∧ dN g inv tT T m r (acc ++ [y]) σ₂ Q) p (fun σ' p' => by
   simp at hz hl
   refine ⟨by exact Nat.lt_of_le_of_lt (Nat.le_add_right _ _) hz, gj P hinv r ys (acc ++ [y]) σ' Q hl (by simp; exact dK fun hg => lN [(acc.length), (r.length)] 0x520c010000028461080000142519001 rfl hz hg) (fun i v y e1 e2 => step (i + 1) v y (by simpa using e1) (by simpa using e2)) p' fun σ'' p'' => ?_⟩
   simpa using q σ'' p'')
  exact ⟨hinv σ p, m', h1, by simpa [tT] using h2⟩
theorem dy {g : Tgt} {inv : ag → Prop} {B : BT} {T : ET} {m : aU} (P : ag → Prop) (hinv : ∀ σ, P σ → inv σ) (f : V → Option V) :
  ∀ (items acc : List V) (σ : ag) (Q : List V → ag → Prop), acc.length + items.length ≤ 1048576 →
  (∀ v ∈ items, ∀ σ (Q₁ : V → ag → Prop) (Q₂ : ag → Prop), P σ → (∀ σ' y, P σ' → f v = some y → Q₁ y σ') → (∀ σ', P σ' → f v = Option.none → Q₂ σ') → ∃ m', eE g v m = some m' ∧ B m' σ fun b σ₁ => if b then T m' σ₁ Q₁ else Q₂ σ₁) →
  P σ → (∀ σ', P σ' → Q (acc ++ items.filterMap f) σ') → dN g inv B T m items acc σ Q
 | [], acc, σ, Q, hz, step, p, q => by
  simp only [dN]
  exact ⟨hinv σ p, by simpa using q σ p⟩
 | v :: r, acc, σ, Q, hz, step, p, q => by
  simp only [dN]
  simp at hz
  obtain ⟨m', h1, h2⟩ := step v (.head _) σ (fun y σ₂ => acc.length < 1048576 ∧ dN g inv B T m r (acc ++ [y]) σ₂ Q) (fun σ₁ => dN g inv B T m r acc σ₁ Q) p
   (fun σ' y p' e => ⟨by exact Nat.lt_of_le_of_lt (Nat.le_add_right _ _) hz, dy P hinv f r (acc ++ [y]) σ' Q (by simp; exact dK fun hg => lN [(acc.length), (r.length)] 0x520c010000028461080000142519001 rfl hz hg) (fun v hv => step v (.tail _ hv)) p' fun σ'' p'' => by simpa [e] using q σ'' p''⟩)
   (fun σ' p' e => dy P hinv f r acc σ' Q (by exact Nat.le_of_lt hz) (fun v hv => step v (.tail _ hv)) p' fun σ'' p'' => by simpa [e] using q σ'' p'')
  exact ⟨hinv σ p, m', h1, h2⟩
theorem a5 {g : Tgt} {inv : ag → Prop} {T : ST} (I : Nat → aU → ag → Prop) (R : V → aU → ag → Prop) (hinv : ∀ i m σ, I i m σ → inv σ) (items : List V) {Q : Fl → aU → ag → Prop}
  (step : ∀ i v m σ Q', items[i]? = some v → I i m σ → (∀ m' σ', I (i + 1) m' σ' → Q' .next m' σ') → (∀ m' σ', I (i + 1) m' σ' → Q' .cont m' σ') → (∀ u m' σ', R u m' σ' → Q' (.ret u) m' σ') → ∃ m', eE g v m = some m' ∧ T m' σ Q')
  (done : ∀ m σ, I items.length m σ → Q .next m σ) (ret : ∀ u m σ, R u m σ → Q (.ret u) m σ) : ∀ (m : aU) (σ : ag), I 0 m σ → iq g inv T items m σ Q := by
 have key : ∀ (n : Nat) (i : Nat) (m : aU) (σ : ag), n = items.length - i → i ≤ items.length → I i m σ → iq g inv T (items.drop i) m σ Q := by
  intro n
  induction n with
  | zero =>
   intro i m σ hn hi h
   have : i = items.length := by exact Nat.le_antisymm (dK fun hg => lN [i, (items.length)] 0x10a309481 rfl hi hg) (dK fun hg => lN [(items.length - i), i, (items.length)] 0x628c25200c100481 rfl (Nat.le_of_eq (Eq.symm hn)) (dE (items.length) (i)) hg)
   subst this
   rw [List.drop_length]
   exact ⟨hinv _ _ _ h, done m σ h⟩
  | succ n ih =>
   intro i m σ hn hi h
   have hlt : i < items.length := by exact oj fun hg => lN [n, (items.length - i), i, (items.length)] 0x31c273140129061 rfl (Nat.le_of_eq hn) (dj (dK fun hg => lN [i, (items.length)] 0x10a309481 rfl hi hg)) hg
   rw [List.drop_eq_getElem_cons hlt]
   simp only [iq]
   refine ⟨hinv _ _ _ h, step i _ m σ _ (List.getElem?_eq_getElem hlt) h (fun m' σ' h' => ih (i + 1) m' σ' (by exact Nat.le_antisymm (dK fun hg => lN [n, (items.length - i), i, (items.length), (items.length - (i + 1))] 0x11030986801c273140129061 rfl (Nat.le_of_eq hn) (dj (dK fun hg => lN [i, (items.length)] 0x2146129061 rfl hlt hg)) (dE (items.length) (i + 1)) hg) (dK fun hg => lN [n, (items.length - i), i, (items.length), (items.length - (i + 1))] 0x208309cc340026280e120ca1 rfl (Nat.le_of_eq (Eq.symm hn)) (dE (items.length) (i)) (dj (dK fun hg => lN [i, (items.length)] 0x41946129061 rfl hlt hg)) hg)) (by exact hlt) h') (fun m' σ' h' => ih (i + 1) m' σ' (by exact Nat.le_antisymm (dK fun hg => lN [n, (items.length - i), i, (items.length), (items.length - (i + 1))] 0x11030986801c273140129061 rfl (Nat.le_of_eq hn) (dj (dK fun hg => lN [i, (items.length)] 0x2146129061 rfl hlt hg)) (dE (items.length) (i + 1)) hg) (dK fun hg => lN [n, (items.length - i), i, (items.length), (items.length - (i + 1))] 0x208309cc340026280e120ca1 rfl (Nat.le_of_eq (Eq.symm hn)) (dE (items.length) (i)) (dj (dK fun hg => lN [i, (items.length)] 0x41946129061 rfl hlt hg)) hg)) (by exact hlt) h') fun u m' σ' h' => ret u m' σ' h'⟩
 intro m σ h
 have := key items.length 0 m σ (by exact rfl) (by exact Nat.zero_le _) h
 simpa using this
@[simp] theorem Ai (m : aU) (x y : String) (v : V) : put m x v y = bif y == x then some v else m y := rfl
@[simp low] theorem zy {α : Type} (x y : String) (a b : α) : (bif y == x then a else b) = if y = x then a else b := by
 by_cases h : y = x
 ·rw [if_pos h, h, beq_self_eq_true]; rfl
 ·rw [if_neg h, beq_false_of_ne h]; rfl
@[simp] theorem zS (fv : List String) (m : aU) (x : String) : only fv m x = if x ∈ fv then m x else Option.none := rfl
theorem oq {ws : List Value} (h : ws.length = 1) : ∃ a, ws = [a] := List.length_eq_one_iff.mp h
theorem vI {n : Nat} {ws : List Value} (h : ws.length = n + 1) : ∃ a r, ws = a :: r ∧ r.length = n := by
 cases ws with
 | nil => cases h
 | cons a r => exact ⟨a, r, rfl, Nat.succ.inj h⟩
theorem m6 {ws : List Value} (h : ws.length = 2) : ∃ a b, ws = [a, b] := by
 obtain ⟨a, r, rfl, g⟩ := vI h
 obtain ⟨b, rfl⟩ := oq g
 exact ⟨a, b, rfl⟩
theorem jJ {ws : List Value} (h : ws.length = 3) : ∃ a b c, ws = [a, b, c] := by
 obtain ⟨a, r, rfl, g⟩ := vI h
 obtain ⟨b, c, rfl⟩ := m6 g
 exact ⟨a, b, c, rfl⟩
theorem tZ {ws : List Value} (h : ws.length = 4) : ∃ a b c d, ws = [a, b, c, d] := by
 obtain ⟨a, r, rfl, g⟩ := vI h
 obtain ⟨b, c, d, rfl⟩ := jJ g
 exact ⟨a, b, c, d, rfl⟩
theorem Am {ws : List Value} (h : ws.length = 5) : ∃ a b c d e, ws = [a, b, c, d, e] := by
 obtain ⟨a, r, rfl, g⟩ := vI h
 obtain ⟨b, c, d, e, rfl⟩ := tZ g
 exact ⟨a, b, c, d, e, rfl⟩
theorem dB {a : Int} {n i : Nat} {v : V} (h : (dk a n)[i]? = some v) : i < n ∧ v = .int (a + i) := by
 unfold dk at h
 rw [List.getElem?_map] at h
 obtain ⟨j, hj, rfl⟩ := Option.map_eq_some_iff.mp h
 obtain ⟨hlt, hji⟩ := List.getElem?_eq_some_iff.mp hj
 simp at hji hlt
 subst hji
 exact ⟨hlt, rfl⟩
theorem cY (a : Int) (n : Nat) : (dk a n).length = n := by simp [dk]
noncomputable def cell (ns : List Int) (k : Int) : Int := ns.getD k.toNat 0
noncomputable def p6 (U : ST) (Q : Fl → aU → ag → Prop) : Fl → aU → ag → Prop := fun f m σ => match f with
 | .next => U m σ Q
 | f => Q f m σ
theorem am (T U : ST) (m : aU) (σ : ag) (Q : Fl → aU → ag → Prop) : aq T U m σ Q = T m σ (p6 U Q) := by
 unfold aq p6; rfl
@[simp] theorem bi (U : ST) (Q : Fl → aU → ag → Prop) (m : aU) (σ : ag) : p6 U Q .next m σ = U m σ Q := rfl
@[simp] theorem yv (U : ST) (Q : Fl → aU → ag → Prop) (m : aU) (σ : ag) : p6 U Q .cont m σ = Q .cont m σ := rfl
@[simp] theorem zh (U : ST) (Q : Fl → aU → ag → Prop) (m : aU) (σ : ag) : p6 U Q .brk m σ = Q .brk m σ := rfl
@[simp] theorem zg (U : ST) (Q : Fl → aU → ag → Prop) (v : V) (m : aU) (σ : ag) : p6 U Q (.ret v) m σ = Q (.ret v) m σ := rfl
noncomputable def fin (Q : V → ag → Prop) : Fl → aU → ag → Prop := fun f _ σ' => match f with | .ret v => Q v σ' | .next => Q .none σ' | _ => False
@[simp] theorem z6 (Q : V → ag → Prop) (v : V) (m : aU) (σ : ag) : fin Q (.ret v) m σ = Q v σ := rfl
@[simp] theorem zp (Q : V → ag → Prop) (m : aU) (σ : ag) : fin Q .next m σ = Q .none σ := rfl
section
variable {m : aU} {σ : ag} {Q : V → ag → Prop} {R : Fl → aU → ag → Prop} {B : Bool → ag → Prop} {K : List V → ag → Prop} {J : List V → (ag → Prop) → ag → Prop} {O : Option Int → ag → Prop} {ns : List Int}
@[simp] theorem mX {x : String} {T : ET} : bj x T m σ R = T m σ fun v σ' => R .next (put m x v) σ' := rfl
@[simp] theorem zM {T : ET} : bo T m σ R = T m σ fun v σ' => R (.ret v) m σ' := rfl
@[simp] theorem Ah {b : BT} {T U : ST} : dP b T U m σ R = b m σ fun b σ' => if b then T m σ' R else U m σ' R := rfl
@[simp] theorem zN : ar m σ R = R .next m σ := rfl
@[simp] theorem yZ {T : ET} : bO T m σ R = T m σ fun _ σ' => R .next m σ' := rfl
@[simp] theorem y0 : qQ m σ R = R .cont m σ := rfl
@[simp] theorem zO {g : Tgt} {I : IT} {T : ST} : cU g I T m σ R = I m σ fun items inv σ' => iq g inv T items m σ' R := rfl
@[simp] theorem n8 {op : V → V → V → ag → (ag → Prop) → Prop} {T To Ti : ET} : bA op T To Ti m σ R = T m σ fun v σ₁ => To m σ₁ fun o σ₂ => Ti m σ₂ fun i σ₃ => op o i v σ₃ fun σ₄ => R .next m σ₄ := rfl
@[simp] theorem kQ {x : String} : ae x m σ Q = atK (m x) fun v => Q v σ := rfl
@[simp] theorem zD {α : Type} {v : α} {F : α → Prop} : atK (some v) F = F v := rfl
@[simp] theorem vV {v : V} : az v m σ Q = Q v σ := rfl
@[simp] theorem vX {op : O2} {T U : ET} : ax op T U m σ Q = T m σ fun a σ₁ => U m σ₁ fun b σ₂ => op a b σ₂ Q := rfl
@[simp] theorem As {op : O1} {T : ET} : vW op T m σ Q = T m σ fun a σ₁ => op a σ₁ Q := rfl
@[simp] theorem zt {spec : bR} {L : LT} : aM spec L m σ Q = L m σ fun vs σ' => spec vs σ' Q := rfl
@[simp] theorem kR {ty : V → ag → Prop} {op : bR} {T : ET} {L : LT} : a6 ty op T L m σ Q = T m σ fun o σ₁ => ty o σ₁ ∧ L m σ₁ fun vs σ₂ => op (o :: vs) σ₂ Q := rfl
@[simp] theorem jQ : ay m σ K = K [] σ := rfl
@[simp] theorem ij {T : ET} {L : LT} : ai T L m σ K = T m σ fun v σ₁ => L m σ₁ fun vs σ₂ => K (v :: vs) σ₂ := rfl
@[simp] theorem AN : xC [] = true := rfl
@[simp] theorem AL {x : Str} {r : List V} : xC (.str x :: r) = true := rfl
@[simp] theorem AM {x : Int} {r : List V} : xC (.int x :: r) = true := rfl
@[simp] theorem z7 {L : LT} : gY L m σ Q = L m σ fun vs σ₁ => (vs.length ≤ 1000 ∧ xC vs = true) ∧ Q (.tup vs) σ₁ := rfl
@[simp] theorem uB {L : LT} : eB L m σ Q = L m σ fun vs σ₁ => vs.length ≤ 1000 ∧ cJ vs σ₁ Q := rfl
@[simp] theorem zJ {T : BT} : j6 T m σ B = T m σ fun b σ' => B (!b) σ' := rfl
@[simp] theorem zK {T U : BT} : lI T U m σ B = T m σ fun b σ' => if b then U m σ' B else B false σ' := rfl
@[simp] theorem Ag {T U : BT} : iP T U m σ B = T m σ fun b σ' => if b then B true σ' else U m σ' B := rfl
@[simp] theorem AF : tT m σ B = B true σ := rfl
@[simp] theorem AG : tF m σ B = B false σ := rfl
@[simp] theorem zs {fv : List String} {g : Tgt} {I : IT} {b : BT} {T : ET} : jq fv g I b T m σ Q = I m σ fun items inv σ' => dN g inv b T (only fv m) items [] σ' fun ys σ'' => cJ ys σ'' Q := rfl
@[simp] theorem Ao {T : ET} : gB ns T m σ J = T m σ fun v σ' => gW ns v σ' J := rfl
@[simp] theorem yB {L : LT} : eY L m σ J = L m σ fun vs σ' => jO vs σ' J := rfl
@[simp] theorem z9 {T : ET} {L U : aU → ag → (Option Int → ag → Prop) → Prop} : uC ns T L U m σ Q = T m σ fun v σ₁ => L m σ₁ fun lo σ₂ => U m σ₂ fun hi σ₃ => tB ns lo hi v σ₃ Q := rfl
@[simp] theorem za : qS m σ O = O Option.none σ := rfl
@[simp] theorem y9 {T : ET} : l3 T m σ O = T m σ fun v σ' => ∃ i, v = .int i ∧ O (some i) σ' := rfl
@[simp] theorem xU {x : String} {v : V} : eE (.name x) v m = some (put m x v) := rfl
@[simp] theorem xV {x : String} {xs : List String} {v : V} {vs : List V} : aG (x :: xs) (v :: vs) m = aG xs vs (put m x v) := rfl
@[simp] theorem yG : aG [] [] m = m := rfl
@[simp] theorem zT {x : String} : aN x = Option.none := rfl
end
@[simp] theorem dh (c : Bool) (F : Bool → Prop) : isB (.bool c) F = F c := rfl
@[simp] theorem yQ (T : ET) (m : aU) (σ : ag) (Q : Bool → ag → Prop) : aJ T m σ Q = T m σ (fun v σ' => isB v fun b => Q b σ') := rfl
@[simp] theorem Aa (T U : ET) (m : aU) (σ : ag) (Q : V → ag → Prop) : ql T U m σ Q = T m σ (fun v σ' => isB v fun b => if b then U m σ' Q else Q (.bool false) σ') := rfl
@[simp] theorem At (T U : ET) (m : aU) (σ : ag) (Q : V → ag → Prop) : Au T U m σ Q = T m σ (fun v σ' => isB v fun b => if b then Q (.bool true) σ' else U m σ' Q) := rfl
@[simp] theorem yP (o1 o2 : O2) (T U W : ET) (m : aU) (σ : ag) (Q : Bool → ag → Prop) : qJ o1 o2 T U W m σ Q = T m σ (fun a σ₁ => U m σ₁ fun b σ₂ => o1 a b σ₂ fun v σ₃ => isB v fun x => if x then W m σ₃ fun c σ₄ => o2 b c σ₄ fun u σ₅ => isB u fun y => Q y σ₅ else Q false σ₃) := rfl
section
variable {σ : ag} {Q : V → ag → Prop} {ns : List Int}
@[simp] theorem add_int {x y : Int} : b0 (.int x) (.int y) σ Q = Q (.int (x + y)) σ := rfl
@[simp] theorem wg {x y : Str} : b0 (.str x) (.str y) σ Q = (x.length + y.length ≤ 16777216 ∧ Q (.str (x ++ y)) σ) := rfl
@[simp] theorem sub_int {x y : Int} : qT (.int x) (.int y) σ Q = Q (.int (x - y)) σ := rfl
@[simp] theorem mul_int {x y : Int} : gG (.int x) (.int y) σ Q = ((f9 x ∨ f9 y) ∧ Q (.int (x * y)) σ) := rfl
@[simp] theorem m4 {x y : Int} : bP (.int x) (.int y) σ Q = (0 < y ∧ Q (.int (x % y)) σ) := rfl
@[simp] theorem vY {x y : Int} : gH (.int x) (.int y) σ Q = ((0 < y ∧ y < 1073741824) ∧ Q (.int (x / y)) σ) := rfl
@[simp] theorem lt_int {x y : Int} : tw (.int x) (.int y) σ Q = Q (.bool (decide (x < y))) σ := rfl
@[simp] theorem le_int {x y : Int} : tz (.int x) (.int y) σ Q = Q (.bool (decide (x ≤ y))) σ := rfl
@[simp] theorem gt_int {x y : Int} : pT (.int x) (.int y) σ Q = Q (.bool (decide (y < x))) σ := rfl
@[simp] theorem neg_int {x : Int} : ie (.int x) σ Q = Q (.int (-x)) σ := rfl
@[simp] theorem eq_int {x y : Int} : br (.int x) (.int y) σ Q = Q (.bool (decide (x = y))) σ := rfl
@[simp] theorem eq_str {x y : Str} : br (.str x) (.str y) σ Q = Q (.bool (decide (x = y))) σ := rfl
@[simp] theorem eq_bool {x y : Bool} : br (.bool x) (.bool y) σ Q = Q (.bool (x == y)) σ := rfl
@[simp] theorem AQ : br .none .none σ Q = Q (.bool true) σ := rfl
@[simp] theorem AP {y : Str} : br .none (.str y) σ Q = Q (.bool false) σ := rfl
@[simp] theorem AO {y : Str} : br (.str y) .none σ Q = Q (.bool false) σ := rfl
@[simp] theorem ne_int {x y : Int} : cc (.int x) (.int y) σ Q = Q (.bool (!decide (x = y))) σ := rfl
@[simp] theorem ne_str {x y : Str} : cc (.str x) (.str y) σ Q = Q (.bool (!decide (x = y))) σ := rfl
@[simp] theorem ne_bool {x y : Bool} : cc (.bool x) (.bool y) σ Q = Q (.bool (!(x == y))) σ := rfl
@[simp] theorem AK : cc .none .none σ Q = Q (.bool false) σ := rfl
@[simp] theorem AJ {y : Str} : cc .none (.str y) σ Q = Q (.bool true) σ := rfl
@[simp] theorem AI {y : Str} : cc (.str y) .none σ Q = Q (.bool true) σ := rfl
@[simp] theorem yr {x y : Str} : ku (.str y) (.str x) σ Q = Q (.bool (!Txt.contains x y)) σ := rfl
@[simp] theorem len_str {x : Str} : ci ns [.str x] σ Q = (x.length ≤ 16777216 ∧ Q (.int x.length) σ) := rfl
@[simp] theorem xy : ci ns [.script] σ Q = Q (.int ns.length) σ := rfl
@[simp] theorem zW {vs : List V} : ci ns [.tup vs] σ Q = (vs.length ≤ 16777216 ∧ Q (.int vs.length) σ) := rfl
theorem dg {a : Addr} {xs : List V} (h : σ a = some (.list xs)) : ci ns [.ref a] σ Q = Q (.int xs.length) σ := by show m5 σ Q (σ a) = _; rw [h]; rfl
theorem tX {a : Addr} {kvs : List (Str × V)} {ep : Nat} (h : σ a = some (.dict kvs ep)) : ci ns [.ref a] σ Q = Q (.int kvs.length) σ := by show m5 σ Q (σ a) = _; rw [h]; rfl
@[simp] theorem zU {x y : Int} : nZ [.int x, .int y] σ Q = Q (.int (min x y)) σ := rfl
@[simp] theorem zV {x y : Int} : n4 [.int x, .int y] σ Q = Q (.int (max x y)) σ := rfl
@[simp] theorem int_bool {b : Bool} : qO [.bool b] σ Q = Q (.int (if b then 1 else 0)) σ := rfl
@[simp] theorem str_int {i : Int} : qN [.int i] σ Q = (i.natAbs.log2 < 1920 ∧ Q (.str (Str.ofString (toString i))) σ) := rfl
@[simp] theorem pG {x y : Str} : dF [.str x, .str y] σ Q = Q (.bool (Txt.startswith x y)) σ := rfl
@[simp] theorem yo {x y : Str} : ia [.str x, .str y] σ Q = ((y.length = 1 ∧ x.length ≤ 1048576) ∧ cJ ((Txt.split x y).map .str) σ Q) := rfl
theorem ma {x : Str} {a : Addr} {ys : List Str} (h : σ a = some (.list (ys.map .str))) (hl : (ys.map (·.length)).sum + ys.length * x.length ≤ 16777216) (q : Q (.str (Str.join x ys)) σ) : j8 [.str x, .ref a] σ Q := ⟨ys, h, hl, q⟩
theorem ud {a : Addr} {xs : List V} (h : σ a = some (.list xs)) : df [.ref a, .ty "list"] σ Q = Q (.bool true) σ := by
 simp [df, onVT, on2, on1, isT, Mine.wH, h]
@[simp] theorem zl {b : Bool} : df [.bool b, .ty "bool"] σ Q = Q (.bool true) σ := by simp [df, onVT, on2, on1, isT, Mine.wH]
@[simp] theorem zY {b : Str} : df [.str b, .ty "str"] σ Q = Q (.bool true) σ := by simp [df, onVT, on2, on1, isT, Mine.wH]
@[simp] theorem zZ {b : Int} : df [.int b, .ty "int"] σ Q = Q (.bool true) σ := by simp [df, onVT, on2, on1, isT, Mine.wH]
@[simp] theorem zX {vs : List V} : df [.tup vs, .ty "tuple"] σ Q = Q (.bool true) σ := by simp [df, onVT, on2, on1, isT, Mine.wH]
@[simp] theorem yn {x : Str} : ej (.str x) σ = True := rfl
theorem bX {a : Addr} {xs : List V} (h : σ a = some (.list xs)) : ca (.ref a) σ = True := by simp [ca, h]
@[simp] theorem zR {n : Int} {R : List V → (ag → Prop) → ag → Prop} : jO [.int n] σ R = ((-(2 ^ 62) ≤ n ∧ n < 2 ^ 62) ∧ R (dk 0 n.toNat) (fun _ => True) σ) := rfl
@[simp] theorem zQ {a b : Int} {R : List V → (ag → Prop) → ag → Prop} : jO [.int a, .int b] σ R = ((-(2 ^ 62) ≤ a ∧ a < 2 ^ 62 ∧ -(2 ^ 62) ≤ b ∧ b < 2 ^ 62) ∧ R (dk a (b - a).toNat) (fun _ => True) σ) := rfl
@[simp] theorem zi {x : Str} {R : List V → (ag → Prop) → ag → Prop} : gW ns (.str x) σ R = R (kg x) (fun _ => True) σ := rfl
theorem bf {a : Addr} {xs : List V} (h : σ a = some (.list xs)) {R : List V → (ag → Prop) → ag → Prop} : gW ns (.ref a) σ R = R xs (fun σ => σ a = some (.list xs)) σ := by show jR a σ R (σ a) = _; rw [h]; rfl
theorem m7 {i : Int} {n : Nat} (h0 : 0 ≤ i) (h : i.toNat < n) : qb i n = some i.toNat := by unfold qb; rw [if_pos h0, if_pos (tU h0 h)]
theorem co {a : Addr} {xs : List V} {i : Int} {v : V} (h : σ a = some (.list xs)) (h0 : 0 ≤ i) (hv : xs[i.toNat]? = some v) (q : Q v σ) : aL ns (.ref a) (.int i) σ Q := by
 refine ⟨xs, i.toNat, v, h, ?_, hv, q⟩
 exact m7 h0 (List.getElem?_eq_some_iff.mp hv).1
theorem i4 {a : Addr} {xs : List V} {v : V} (h : σ a = some (.list (xs ++ [v]))) (q : Q v σ) : aL ns (.ref a) (.int (-1)) σ Q := by
 refine ⟨xs ++ [v], xs.length, v, h, ?_, by simp, q⟩
 unfold qb
 rw [if_neg (by decide), if_pos (by simp; omega)]
 simp
 omega
theorem ua {x : Str} {i : Int} {c : Nat} (hz : x.length < 16777217) (h0 : 0 ≤ i) (hv : x.cps.toList[i.toNat]? = some c) (q : Q (.str ⟨#[c]⟩) σ) : aL ns (.str x) (.int i) σ Q := by
 refine ⟨hz, i.toNat, c, ?_, hv, q⟩
 exact m7 h0 (List.getElem?_eq_some_iff.mp hv).1
theorem oM {a : Addr} {xs : List V} {lo hi : Option Int} (h : σ a = some (.list xs)) (q : cJ (bJ xs lo hi) σ Q) : tB ns lo hi (.ref a) σ Q := ⟨xs, h, q⟩
theorem cm {a : Addr} {xs : List V} {v : V} (h : σ a = some (.list xs)) (hz : xs.length < 16777216) (q : Q .none (a8 σ a (.list (xs ++ [v])))) : bg [.ref a, v] σ Q := ⟨xs, h, hz, q⟩
theorem sA {k : Int} (h0 : 0 ≤ k) (h : k < ns.length) (q : Q (.int (cell ns k)) σ) : aL ns .script (.int k) σ Q := by
 refine ⟨k.toNat, ns.getD k.toNat 0, h0, ?_, ?_, q⟩
 ·unfold qb; rw [if_pos h0, if_pos h]
 ·rw [List.getD_eq_getElem?_getD]
  cases e : ns[k.toNat]? with
  | none => rw [List.getElem?_eq_none_iff] at e; exact absurd (fM h0 h) (Nat.not_lt.mpr e)
  | some n => rfl
theorem kX {n : Int} {k : Nat} (h0 : 0 ≤ n) : clipAt k n = min n.toNat k := by
 unfold clipAt
 rw [if_neg (Int.not_lt.mpr h0)]
 obtain ⟨m, rfl⟩ := Int.eq_ofNat_of_zero_le h0
 by_cases h : m ≤ k
 ·rw [Int.min_eq_left (Int.ofNat_le.mpr h), Int.max_eq_right (Int.natCast_nonneg _), Int.toNat_natCast, Nat.min_eq_left h]
 ·have h' : k ≤ m := Nat.le_of_not_le h
  rw [Int.min_eq_right (Int.ofNat_le.mpr h'), Int.max_eq_right (Int.natCast_nonneg _), Int.toNat_natCast, Int.toNat_natCast, Nat.min_eq_right h']
theorem oK {α : Type} (l : List α) {n : Int} (h0 : 0 ≤ n) : bJ l Option.none (some n) = l.take n.toNat := by
 unfold bJ kY
 simp only [Option.elim]
 rw [kX h0, List.drop_zero, Nat.sub_zero, ← List.take_eq_take_min]
end
end Mine
end
noncomputable section
set_option tactic.hygienic false
namespace Mine
open PySem PySem.W PyProof.Rows PySem.Calls
abbrev cl (x : Str) : List Nat := x.cps.toList
theorem qp {x y : Str} (h : cl x = cl y) : x = y := by
 cases x; cases y; simp [cl] at h; rw [h]
theorem eD (x y : Str) : cl (x ++ y) = cl x ++ cl y := by
 show (x.cps ++ y.cps).toList = _; simp
theorem eZ (x : Str) : x.length = (cl x).length := by simp [Str.length]
noncomputable def jn (c : Nat) : List (List Nat) → List Nat
 | [] => []
 | [x] => x
 | x :: y :: r => x ++ c :: jn c (y :: r)
theorem gk (c : Nat) : ∀ xs : List Str, cl (Str.join ⟨#[c]⟩ xs) = jn c (xs.map cl)
 | [] => rfl
 | [x] => rfl
 | x :: y :: r => by
  have ih := gk c (y :: r)
  simp only [List.map_cons] at ih
  simp only [List.map_cons, jn, Str.join, eD, ih]
  rw [List.append_assoc]; rfl
noncomputable def uV (c : Nat) (xs : List (List Nat)) : Prop := ∀ x ∈ xs, c ∉ x
theorem ng {c : Nat} : ∀ {x y a b : List Nat}, c ∉ x → c ∉ y → x ++ c :: a = y ++ c :: b → x = y ∧ a = b
 | [], [], a, b, _, _, h => by simp at h; exact ⟨rfl, h⟩
 | [], d :: y, a, b, _, hy, h => by simp at h; exact absurd (h.1 ▸ List.mem_cons_self ..) hy
 | d :: x, [], a, b, hx, _, h => by simp at h; exact absurd (h.1 ▸ List.mem_cons_self ..) hx
 | d :: x, e :: y, a, b, hx, hy, h => by
  simp at h hx hy
  obtain ⟨rfl, h⟩ := h
  obtain ⟨rfl, rfl⟩ := ng hx.2 hy.2 h
  exact ⟨rfl, rfl⟩
theorem t9 {c : Nat} : ∀ {xs ys : List (List Nat)}, uV c xs → uV c ys → xs ≠ [] → ys ≠ [] → jn c xs = jn c ys → xs = ys
 | [], _, _, _, h, _, _ => absurd rfl h
 | _, [], _, _, _, h, _ => absurd rfl h
 | [x], [y], _, _, _, _, e => by simp [jn] at e; rw [e]
 | [x], y :: z :: r, fx, _, _, _, e => by
  simp only [jn] at e
  exact absurd (by rw [e]; simp) (fx x (.head _))
 | x :: z :: r, [y], _, fy, _, _, e => by
  simp only [jn] at e
  exact absurd (by rw [← e]; simp) (fy y (.head _))
 | x :: z :: r, y :: u :: q, fx, fy, _, _, e => by
  simp only [jn] at e
  obtain ⟨rfl, e'⟩ := ng (fx x (.head _)) (fy y (.head _)) e
  rw [t9 (fun a h => fx a (.tail _ h)) (fun a h => fy a (.tail _ h)) (by simp) (by simp) e']
theorem mh {c : Nat} : ∀ {xs ys : List (List Nat)}, uV c xs → uV c ys → xs ≠ [] → ys ≠ [] → (jn c xs ++ [c] <+: jn c ys ↔ xs.length < ys.length ∧ ys.take xs.length = xs)
 | [], _, _, _, h, _ => absurd rfl h
 | _, [], _, _, _, h => absurd rfl h
 | [x], [y], _, fy, _, _ => by
  simp only [jn]
  constructor
  ·rintro ⟨t, e⟩; exact absurd (by rw [← e]; simp) (fy y (.head _))
  ·rintro ⟨h, _⟩; simp at h
 | x :: z :: r, [y], _, fy, _, _ => by
  simp only [jn]
  constructor
  ·rintro ⟨t, e⟩; exact absurd (by rw [← e]; simp) (fy y (.head _))
  ·rintro ⟨h, _⟩; simp at h
 | [x], y :: u :: q, fx, fy, _, _ => by
  simp only [jn]
  constructor
  ·rintro ⟨t, e⟩
   obtain ⟨rfl, _⟩ := ng (a := t) (fx x (.head _)) (fy y (.head _)) (by simpa using e)
   simp
  ·rintro ⟨_, h⟩
   simp at h
   subst h
   exact ⟨jn c (u :: q), by simp⟩
 | x :: z :: r, y :: u :: q, fx, fy, _, _ => by
  have ih := mh (c := c) (xs := z :: r) (ys := u :: q) (fun a h => fx a (.tail _ h)) (fun a h => fy a (.tail _ h)) (by simp) (by simp)
  simp only [jn]
  constructor
  ·rintro ⟨t, e⟩
   obtain ⟨rfl, e'⟩ := ng (a := jn c (z :: r) ++ [c] ++ t) (fx x (.head _)) (fy y (.head _)) (by simpa using e)
   obtain ⟨h1, h2⟩ := ih.mp ⟨t, e'⟩
   exact ⟨by simpa using h1, by simpa using h2⟩
  ·rintro ⟨h1, h2⟩
   simp only [List.length_cons, List.take_succ_cons, List.cons.injEq] at h1 h2
   obtain ⟨rfl, h2⟩ := h2
   obtain ⟨t, e⟩ := ih.mpr ⟨by simpa using h1, by simpa using h2⟩
   exact ⟨t, by rw [← e]; simp⟩
noncomputable def Fr (x : Str) : Prop := 47 ∉ cl x
theorem lW : Str.ofString "/" = ⟨#[47]⟩ := by decide +kernel
theorem ip {xs : List Str} (h : ∀ x ∈ xs, Fr x) : uV 47 (xs.map cl) := fun a ha => by
 obtain ⟨x, hx, rfl⟩ := List.mem_map.mp ha; exact h x hx
theorem gT : ∀ {xs ys : List Str}, xs.map cl = ys.map cl → xs = ys
 | [], [], _ => rfl
 | [], _ :: _, h => by simp at h
 | _ :: _, [], h => by simp at h
 | x :: xs, y :: ys, h => by simp only [List.map_cons, List.cons.injEq] at h; rw [qp h.1, gT h.2]
theorem ov {xs ys : List Str} (fx : ∀ x ∈ xs, Fr x) (fy : ∀ y ∈ ys, Fr y) (nx : xs ≠ []) (ny : ys ≠ []) (h : Str.join (Str.ofString "/") xs = Str.join (Str.ofString "/") ys) : xs = ys := by
 refine gT (t9 (ip fx) (ip fy) (by simpa using nx) (by simpa using ny) ?_)
 rw [← gk, ← gk, ← lW, h]
theorem eQ (x y : Str) : Txt.startswith x y = true ↔ cl y <+: cl x := by
 unfold Txt.startswith
 rw [StrLaws.subAt_eq, eZ, eZ, List.prefix_iff_eq_take]
 simp
 constructor
 ·rintro ⟨_, h⟩; exact h.symm
 ·intro h; refine ⟨?_, h.symm⟩
  have := congrArg List.length h
  simp at this
  omega
theorem nX {xs ys : List Str} (fx : ∀ x ∈ xs, Fr x) (fy : ∀ y ∈ ys, Fr y) (nx : xs ≠ []) (ny : ys ≠ []) :
  Txt.startswith (Str.join (Str.ofString "/") ys) (Str.join (Str.ofString "/") xs ++ Str.ofString "/") = decide (xs.length < ys.length ∧ ys.take xs.length = xs) := by
 rw [Bool.eq_iff_iff, eQ, decide_eq_true_eq, eD, lW, gk, gk]
 have := mh (ip fx) (ip fy) (by simpa using nx) (by simpa using ny)
 rw [show cl ⟨#[47]⟩ = [47] from rfl, this]
 simp only [List.length_map, ← List.map_take]
 constructor
 ·rintro ⟨h, e⟩; exact ⟨h, gT e⟩
 ·rintro ⟨h, e⟩; exact ⟨h, by rw [e]⟩
theorem ee : (Str.ofString "/").length = 1 := by rw [lW]; rfl
end Mine
end
noncomputable section
set_option tactic.hygienic false
namespace Mine
open PySem PySem.W PyProof.Rows PySem.Calls
noncomputable def GStr (C : Cx) (x : String) (v : Str) : Prop := ∃ t, C.mg (Str.ofString x) = some (.str v t)
noncomputable def GInt (C : Cx) (x : String) (v : Int) : Prop := ∃ t, C.mg (Str.ofString x) = some (.int v t)
section
variable {C : Cx} {p : Program} {sc : Scope} {k : Nat}
theorem wr (O : C.Ok) {x : String} {pos : Pos} {v : Str} (h : sc.names.lookup (Str.ofString x) = some .globalImplicit) (hg : GStr C x v) (hd : (Str.ofString x == ("__debug__" : Str)) = false) : HE C sc k (.Name (Str.ofString x) pos) (az (.str v)) := by
 obtain ⟨t, e⟩ := hg
 exact rl O h e (fun _ => .str v t) hd
theorem rm (O : C.Ok) {x : String} {pos : Pos} {v : Int} (h : sc.names.lookup (Str.ofString x) = some .globalImplicit) (hg : GInt C x v) (hd : (Str.ofString x == ("__debug__" : Str)) = false) : HE C sc k (.Name (Str.ofString x) pos) (az (.int v)) := by
 obtain ⟨t, e⟩ := hg
 exact rl O h e (fun _ => .int v t) hd
theorem GStr.of {loose : List Str} {mean : ExcName → Option Value} (T : Top p loose mean C.mg C.mb C.hB) {x : String} {v : Str} (h : valOf p (Str.ofString x) = some (.str v)) : GStr C x v := by
 obtain ⟨w, h1, h2⟩ := T.const _ _ h
 cases h2 C.hB with
 | str _ t => exact ⟨t, h1⟩
theorem GInt.of {loose : List Str} {mean : ExcName → Option Value} (T : Top p loose mean C.mg C.mb C.hB) {x : String} {v : Int} (h : valOf p (Str.ofString x) = some (.int v)) : GInt C x v := by
 obtain ⟨w, h1, h2⟩ := T.const _ _ h
 cases h2 C.hB with
 | int _ t => exact ⟨t, h1⟩
end
end Mine
end
noncomputable section
set_option tactic.hygienic false
namespace Mine
open PySem PySem.W PyProof.Rows PySem.Calls
noncomputable def bb {K : Type} [DecidableEq K] (kvs : List (K × V)) (k : K) (v : V) : List (K × V) :=
 if kvs.any (fun kv => kv.1 = k) then kvs.map (fun kv => if kv.1 = k then (kv.1, v) else kv) else kvs ++ [(k, v)]
noncomputable def cX {K : Type} [DecidableEq K] (kvs : List (K × V)) (k : K) : Option V := (kvs.find? fun kv => kv.1 = k).map (·.2)
noncomputable def fw {K : Type} [DecidableEq K] (kvs : List (K × V)) (k : K) : List (K × V) := kvs.filter fun kv => decide (kv.1 ≠ k)
section
variable {aS : Addr} {h : Heap}
variable {K : Type} [DecidableEq K] {a a' : List (K × V)} {b b' : List (K × Value)} {k : K}
theorem PRel.any (k : K) (x : PRel aS h a b) : (a.any fun kv => kv.1 = k) = (b.any fun kv => kv.1 = k) :=
 x.ind (P := fun a b => (a.any fun kv => kv.1 = k) = (b.any fun kv => kv.1 = k)) rfl fun _ _ _ _ _ _ _ ih => by simp only [List.any_cons, ih]
theorem PRel.append (x : PRel aS h a b) (y : PRel aS h a' b') : PRel aS h (a ++ a') (b ++ b') :=
 x.ind (P := fun a b => PRel aS h (a ++ a') (b ++ b')) y fun _ _ _ _ _ v _ ih => by rw [List.cons_append, List.cons_append]; exact ⟨rfl, v, ih⟩
theorem PRel.mapSet {v : V} {w : Value} (hv : VRel aS h v w) (x : PRel aS h a b) : PRel aS h (a.map fun kv => if kv.1 = k then (kv.1, v) else kv) (b.map fun kv => if kv.1 = k then (kv.1, w) else kv) :=
 x.ind (P := fun a b => PRel aS h (a.map fun kv => if kv.1 = k then (kv.1, v) else kv) (b.map fun kv => if kv.1 = k then (kv.1, w) else kv)) trivial fun x _ _ _ _ q _ ih => by
  rw [List.map_cons, List.map_cons]
  by_cases c : x = k
  ·rw [if_pos c, if_pos c]; exact ⟨rfl, hv, ih⟩
  ·rw [if_neg c, if_neg c]; exact ⟨rfl, q, ih⟩
theorem PRel.stored {v : V} {w : Value} (x : PRel aS h a b) (hv : VRel aS h v w) : PRel aS h (bb a k v) (PySem.stored b k w) := by
 unfold bb PySem.stored
 rw [x.any k]
 split
 ·exact x.mapSet hv
 ·exact x.append ⟨rfl, hv, trivial⟩
theorem PRel.find (x : PRel aS h a b) : ∀ {v : V}, cX a k = some v → ∃ w, valueAt b k = some w ∧ VRel aS h v w :=
 x.ind (P := fun a b => ∀ {v : V}, cX a k = some v → ∃ w, valueAt b k = some w ∧ VRel aS h v w) (fun e => by cases e) fun x _ z _ _ q _ ih v hv => by
  unfold cX at hv
  unfold valueAt
  by_cases c : x = k
  ·rw [List.find?_cons_of_pos (by simpa using c)] at hv
   rw [List.find?_cons_of_pos (by simpa using c)]
   cases hv; exact ⟨z, rfl, q⟩
  ·rw [List.find?_cons_of_neg (by simpa using c)] at hv
   rw [List.find?_cons_of_neg (by simpa using c)]
   exact ih hv
theorem PRel.none (x : PRel aS h a b) : (cX a k).isSome = (valueAt b k).isSome :=
 x.ind (P := fun a b => (cX a k).isSome = (valueAt b k).isSome) rfl fun x _ _ _ _ _ _ ih => by
  unfold cX valueAt
  by_cases c : x = k
  ·rw [List.find?_cons_of_pos (by simpa using c), List.find?_cons_of_pos (by simpa using c)]; rfl
  ·rw [List.find?_cons_of_neg (by simpa using c), List.find?_cons_of_neg (by simpa using c)]
   exact ih
theorem PRel.without (x : PRel aS h a b) : PRel aS h (fw a k) (PySem.without b k) :=
 x.ind (P := fun a b => PRel aS h (fw a k) (PySem.without b k)) trivial fun x _ _ _ _ q _ ih => by
  unfold fw PySem.without at *
  by_cases c : x = k
  ·rw [List.filter_cons_of_neg (by simpa using c), List.filter_cons_of_neg (by simpa using c)]; exact ih
  ·rw [List.filter_cons_of_pos (by simpa using c), List.filter_cons_of_pos (by simpa using c)]; exact ⟨rfl, q, ih⟩
end
section
variable {C : Cx} {p : Program} {sc : Scope} {k : Nat}
theorem iZ (x : Str) (t : Tok) : (strKind C.prog C.w).is x (.str x t) = true := by
 show Value.isStrOf x (.str x t) = true
 simp [Value.isStrOf]
noncomputable def vE (kvs : List (Str × V)) (σ : ag) (Q : V → ag → Prop) : Prop := ∀ a ep, σ a = Option.none → Q (.ref a) (a8 σ a (.dict kvs ep))
noncomputable def gZ : ET := fun _ σ Q => vE [] σ Q
theorem ga {pos : Pos} : HE C sc k (.Dict [] [] pos) gZ := by
 refine ⟨?_⟩; intro env A s m σ Q P E en ao R F q hP
 have hn := bw s.heap
 obtain ⟨ep, hat⟩ := (Heap.DictOf.new (knd := strKind C.prog C.w) s.heap).dictAt
 refine wpAny_Dict_empty (hP (.ref s.heap.objs.size) (.ref s.heap.objs.size) (a8 σ s.heap.objs.size (.dict [] ep)) _ (.ref _) ?_ .addPush (q _ ep (R.freshNone hn)))
 have := R.add (tk := s.toks) (a := s.heap.objs.size) (o := .dict [] ep) a4 hn (h' := s.heap.push { cls := .type "dict", data := .dict #[] }) ⟨by simp, [], hat, trivial⟩
 exact this
noncomputable def gA : V → V → V → ag → (ag → Prop) → Prop := fun o i v σ Q => isR o fun a => isS i fun k => ∃ kvs ep, σ a = some (.dict kvs ep) ∧ kvs.length < 16777216 ∧ ∀ ep', Q (a8 σ a (.dict (bb kvs k v) ep'))
theorem mz {h : Heap} {a : Addr} {kws : List (Str × Value)} {ep : Nat} (x : h.DictAt (strKind C.prog C.w) a kws ep) : ∀ o, h.get? a = some o → ¬ jN o := by
 intro o ho
 obtain ⟨o', es, ho', hc, hd, _⟩ := x
 rw [ho] at ho'; cases ho'
 simp [jN, hd]
theorem nQ (kvs : List (Str × V)) (x : Str) (v : V) : (bb kvs x v).length ≤ kvs.length + 1 := by
 unfold bb; split <;> simp
theorem gf : uP C k gA := by
 intro A s σ o i v wo wi w Q P E ao R vo vi vv q hP
 replace q := isR.elim q
 obtain ⟨a, rfl, q⟩ := q
 replace q := isS.elim q
 obtain ⟨x, rfl, q⟩ := q
 ·cases vo; cases vi
  obtain ⟨kvs, ep, hx, hz, q⟩ := q
  obtain ⟨_, kws, h1, h2⟩ := R.view _ _ hx
  have hl := h2.length
  refine wpAny_setItem_pairs (knd := strKind C.prog C.w) (iZ x _) h1.dictOf (fun h' hd' hs' => ?_) (by rw [sizeLine_eq, ← hl]; omega)
  obtain ⟨ep', hat⟩ := hd'.dictAt
  have kt : a0 s.heap h' := fun b o eb ht => hs'.extBut b o (by rintro rfl; exact mz h1 o eb ht) eb
  have vl := nQ kvs x v
  exact hP (a8 σ a (.dict (bb kvs x v) ep')) _ (R.change (tk := s.toks + 1) hx hs' ⟨by omega, _, hat, (h2.stored vv).keep kt⟩) (.change hx hs') (q ep')
noncomputable def cG : O2 := fun i o σ Q => isS i fun x => isR o fun a => ∃ kvs ep, σ a = some (.dict kvs ep) ∧ Q (.bool (cX kvs x).isSome) σ
theorem dJ (O : C.Ok) : hW C k (compareOp .In) cG := by
 intro A s σ a b wa wb Q P E ao R va vb q hP
 replace q := isS.elim q
 obtain ⟨x, rfl, q⟩ := q
 replace q := isR.elim q
 obtain ⟨a, rfl, q⟩ := q
 ·cases va; cases vb
  obtain ⟨kvs, ep, hx, q⟩ := q
  obtain ⟨_, kws, h1, h2⟩ := R.view _ _ hx
  refine wpAny_in_of (knd := strKind C.prog C.w) (iZ x _) (O.noMods (R.apart a (by rw [hx]; simp))) h1.dictOf.mapOf ?_
  rw [← h2.none]
  exact hP _ _ σ _ (.bool _) (R.tok _) Step.refl q
noncomputable def dU : O2 := fun o i σ Q => isR o fun a => isS i fun x => ∃ kvs ep v, σ a = some (.dict kvs ep) ∧ cX kvs x = some v ∧ Q v σ
noncomputable def onO (o : Option AObj) (D : List (Str × V) → Prop) (L : List V → Prop) : Prop := match o with | some (.dict kvs _) => D kvs | some (.list xs) => L xs | _ => False
theorem onO.elim {o : Option AObj} {D : List (Str × V) → Prop} {L : List V → Prop} (h : onO o D L) : (∃ kvs ep, o = some (.dict kvs ep) ∧ D kvs) ∨ ∃ xs, o = some (.list xs) ∧ L xs := by
 cases o with
 | none => exact False.elim h
 | some o => cases o <;> first | exact .inl ⟨_, _, rfl, h⟩ | exact .inr ⟨_, rfl, h⟩ | exact False.elim h
noncomputable def eR : bR := fun vs σ Q => onR vs fun a => onO (σ a) (fun kvs => cJ (kvs.map fun q => .str q.1) σ Q) fun xs => cJ xs σ Q
theorem i3 {aS : Addr} {h : Heap} : ∀ (vs : List V) (ws : List Value), ws.length = vs.length → (∀ (j : Nat) (v : V) w, vs[j]? = some v → ws[j]? = some w → VRel aS h v w) → VRels aS h vs ws
 | [], [], _, _ => .nil
 | [], _ :: _, h, _ => by simp at h
 | _ :: _, [], h, _ => by simp at h
 | v :: vs, w :: ws, hl, hj => .cons (hj 0 v w rfl rfl) (i3 vs ws (by simpa using hl) fun j v w e1 e2 => hj (j + 1) v w (by simpa using e1) (by simpa using e2))
theorem tG (O : C.Ok) (hpl : C.held = Option.none) : nG C k (fun ws => PySem.call (.type "list") ws) eR := by
 intro A s σ vs ws Q P E ao R hv q hP
 replace q := onR.elim q
 obtain ⟨a, rfl, q⟩ := q
 ·obtain ⟨wa, rfl, h1⟩ := hv.inv1
  cases h1
  rcases onO.elim q with ⟨kvs, ep, hx, q⟩ | ⟨xs, hx, q⟩
  ·obtain ⟨hz, kws, h2, h3⟩ := R.view _ _ hx
   have hl := h3.length
   refine a7 (kdl_call (kdl_dict (knd := strKind C.prog C.w) (kvs := kws) (ep := ep) (O.noMods (R.apart a (by rw [hx]; simp)))) (ao.none hpl) h2 (kdl_size (by omega)) fun h' tk acc c hk hD hacc => ?_)
   intro hsz
   have hn := bw s.heap
   have rel : VRels C.aS h' (kvs.map fun q => .str q.1) acc.toList := by
    refine i3 _ _ (by simp [hacc.1, hl]) fun j v w e1 e2 => ?_
    rw [List.getElem?_map] at e1
    obtain ⟨⟨ky, u⟩, e3, rfl⟩ := Option.map_eq_some_iff.mp e1
    obtain ⟨k', x', e4, e5⟩ := hacc.2 j w (by rw [← Array.getElem?_toList]; exact e2)
    obtain ⟨w', e6, _⟩ := h3.get e3
    rw [e6] at e4; cases e4
    obtain ⟨t, rfl⟩ := Value.isStrOf_shape e5
    exact .str _ _
   refine hP (.ref s.heap.objs.size) _ (a8 σ s.heap.objs.size (.list (kvs.map fun q => .str q.1))) _ (.ref _) (R.add (tk := tk) hk hn ⟨by simp; omega, acc.toList, ⟨c, by simpa using hD⟩, rel⟩) (.add hk hsz (Nat.le_refl _)) (q _ (R.freshNone hn))
  ·obtain ⟨hz, us, ⟨n, h2⟩, h3⟩ := R.view _ _ hx
   have hl := h3.length
   refine a7 (call_list_seq a (.inl rfl) h2 rfl rfl (fun h' c' hk hD => ?_) (by rw [List.size_toArray, sizeLine_eq]; omega))
   intro hsz
   have hn := bw s.heap
   exact hP (.ref s.heap.objs.size) _ (a8 σ s.heap.objs.size (.list xs)) _ (.ref _) (R.add (tk := s.toks) hk hn ⟨hz, us, ⟨c', by simpa using hD⟩, h3.keep fun b o e _ => hk b o e⟩) (.add hk hsz (Nat.le_refl _)) (q _ (R.freshNone hn))
end
end Mine
end
noncomputable section
set_option tactic.hygienic false
namespace Mine
open PySem PySem.W PyProof.Rows PySem.Calls
section
variable {C : Cx} {p : Program} {sc : Scope} {k : Nat}
theorem tJ {slice : Expr} (hsl : eX slice = false) : hW C k (fun o i => getitemInPython o >>= fun b => subscripted slice b o i) dU := by
 intro A s σ a b wa wb Q P E ao R va vb q hP
 replace q := isR.elim q
 obtain ⟨a, rfl, q⟩ := q
 replace q := isS.elim q
 obtain ⟨x, rfl, q⟩ := q
 ·cases va; cases vb
  obtain ⟨kvs, ep, v, hx, hv, q⟩ := q
  obtain ⟨_, kws, h1, h2⟩ := R.view _ _ hx
  obtain ⟨w, e1, e2⟩ := h2.find hv
  exact dD hsl h1.dictOf.typeIs slot_dict_getitem.lookup (wpAny_getItem_of (knd := strKind C.prog C.w) (iZ x _) h1.dictOf.mapOf e1 (hP _ _ σ _ e2 (R.tok _) Step.refl q))
theorem lD {value slice : Expr} {pos : Pos} {T U : ET} (hv : HE C sc k value T) (hi : HE C sc k slice U) (hs : eX slice = false) : HE C sc k (.Subscript value slice pos) (ax dU T U) :=
 qz hv hi (tJ hs)
noncomputable def bq : V → ag → Prop
 | .ref a, σ => ∃ kvs ep, σ a = some (.dict kvs ep)
 | _, _ => False
theorem lU : wh C "dict" bq := by
 intro o wo σ s R hv h
 cases hv <;> first | exact h.elim | skip
 obtain ⟨kvs, ep, hx⟩ := h
 obtain ⟨_, ws, h1, h2⟩ := R.view _ _ hx
 exact ⟨h1.dictOf.typeIs, h1.dictOf.mapOf.noDict⟩
theorem sR (kvs : List (Str × V)) (x : Str) : (fw kvs x).length ≤ kvs.length := List.length_filter_le _ _
noncomputable def lV : bR := fun vs σ Q => onRS vs fun a x => ∃ kvs ep v, σ a = some (.dict kvs ep) ∧ cX kvs x = some v ∧ ∀ ep', Q v (a8 σ a (.dict (fw kvs x) ep'))
theorem xg : nG C k (fun ws => PySem.call (.builtin "dict.pop") ws) lV := by
 intro A s σ vs ws Q P E ao R hv q hP
 replace q := onRS.elim q
 obtain ⟨a, x, rfl, q⟩ := q
 ·obtain ⟨wa, wb, rfl, h1, h2⟩ := hv.inv2
  cases h1; cases h2
  obtain ⟨kvs, ep, v, hx, hv, q⟩ := q
  obtain ⟨hz, kws, h1, h2⟩ := R.view _ _ hx
  obtain ⟨w, e1, e2⟩ := h2.find hv
  have hl := h2.length
  refine call_meetsIn F.slot_dict_pop h1.dictOf.typeIs F.entry_dict_pop (F.args_dict_pop_2 _ _) (meets_dict_pop_there (strKind C.prog C.w) a (iZ x _) [] (.inl rfl) rfl) ⟨kws, w, h1.dictOf, by rw [sizeLine_eq]; omega, e1, fun h' hd' hs' => ?_⟩
  obtain ⟨ep', hat⟩ := hd'.dictAt
  have kt : a0 s.heap h' := fun b o eb ht => hs'.extBut b o (by rintro rfl; exact mz h1 o eb ht) eb
  have vl := sR kvs x
  exact hP v w (a8 σ a (.dict (fw kvs x) ep')) _ (e2.keep kt) (R.change (tk := s.toks + 1) hx hs' ⟨by omega, _, hat, h2.without.keep kt⟩) (.change hx hs') (q ep')
theorem rh {o : Expr} {apos pos : Pos} {es : List Expr} {To : ET} {L : LT} (ho : HE C sc k o To) (hl : HL C sc k es L) (hp : aD es = true)
  (hbase : ∀ env, attributeBase o (Str.ofString "pop") env (eval o env) = eval o env) (hline : (apos.endLine == pos.line) = true) (hfew : es.length < 30) : HE C sc k (.Call (.Attribute o (Str.ofString "pop") apos) es [] pos) (a6 bq lV To L) :=
 gy lU F.plainAttrs_dict F.slot_dict_pop F.type_dict_pop xg ho hl hp hbase hline hfew
theorem iN (G : Gl C p) (hpl : C.held = Option.none) {np pos : Pos} {es : List Expr} {L : LT} (hn : sc.names.lookup (Str.ofString "list") = some .globalImplicit) (hl : HL C sc k es L) (hp : aD es = true) : HE C sc k (.Call (.Name (Str.ofString "list") np) es [] pos) (aM eR L) :=
 iO G.ok (tG G.ok hpl) hn (G.free _ (by decide)) (G.blt nj (by decide)) rfl hl hp
end
end Mine
end
noncomputable section
set_option tactic.hygienic false
namespace Mine
open PySem PySem.W PyProof.Rows PySem.Calls
section
variable {σ : ag} {Q : V → ag → Prop} {ns : List Int}
theorem iw {a b : Addr} {xs ys : List V} (ha : σ a = some (.list xs)) (hb : σ b = some (.list ys)) (hz : xs.length + ys.length ≤ 16777216) (q : cJ (xs ++ ys) σ Q) : b0 (.ref a) (.ref b) σ Q := ⟨xs, ys, ha, hb, hz, q⟩
@[simp] theorem yF {m : aU} : gZ m σ Q = vE [] σ Q := rfl
theorem er {a : Addr} {kvs : List (Str × V)} {ep : Nat} {x : Str} {v : V} {R : ag → Prop} (h : σ a = some (.dict kvs ep)) (hz : kvs.length < 16777216) (q : ∀ ep', R (a8 σ a (.dict (bb kvs x v) ep'))) : gA (.ref a) (.str x) v σ R := ⟨kvs, ep, h, hz, q⟩
theorem cM {a : Addr} {kvs : List (Str × V)} {ep : Nat} {x : Str} (h : σ a = some (.dict kvs ep)) (q : Q (.bool (cX kvs x).isSome) σ) : cG (.str x) (.ref a) σ Q := ⟨kvs, ep, h, q⟩
theorem i5 {a : Addr} {kvs : List (Str × V)} {ep : Nat} {x : Str} {v : V} (h : σ a = some (.dict kvs ep)) (hv : cX kvs x = some v) (q : Q v σ) : dU (.ref a) (.str x) σ Q := ⟨kvs, ep, v, h, hv, q⟩
theorem n9 {a : Addr} {kvs : List (Str × V)} {ep : Nat} {x : Str} {v : V} (h : σ a = some (.dict kvs ep)) (hv : cX kvs x = some v) (q : ∀ ep', Q v (a8 σ a (.dict (fw kvs x) ep'))) : lV [.ref a, .str x] σ Q := ⟨kvs, ep, v, h, hv, q⟩
theorem eW {a : Addr} {kvs : List (Str × V)} {ep : Nat} (h : σ a = some (.dict kvs ep)) : eR [.ref a] σ Q = cJ (kvs.map fun q => .str q.1) σ Q := by show onO (σ a) _ _ = _; rw [h]; rfl
theorem cA {a : Addr} {kvs : List (Str × V)} {ep : Nat} (h : σ a = some (.dict kvs ep)) : bq (.ref a) σ = True := by simp [bq, h]
theorem cH {a : Addr} {kvs : List (Str × V)} {ep : Nat} (h : σ a = some (.dict kvs ep)) {R : List V → (ag → Prop) → ag → Prop} : gW ns (.ref a) σ R = R (kvs.map fun q => .str q.1) (fun σ => σ a = some (.dict kvs ep)) σ := by show jR a σ R (σ a) = _; rw [h]; rfl
end
theorem bH (kvs : List (Str × V)) (x : Str) : (cX kvs x).isSome = decide (x ∈ kvs.map (·.1)) := by
 unfold cX
 rw [Option.isSome_map, Bool.eq_iff_iff, List.find?_isSome]
 simp
theorem dc {kvs : List (Str × V)} {x : Str} (h : x ∈ kvs.map (·.1)) : ∃ v, cX kvs x = some v ∧ (x, v) ∈ kvs := by
 have := bH kvs x
 rw [decide_eq_true h] at this
 obtain ⟨v, hv⟩ := Option.isSome_iff_exists.mp this
 refine ⟨v, hv, ?_⟩
 unfold cX at hv
 obtain ⟨⟨k', v'⟩, h1, h2⟩ := Option.map_eq_some_iff.mp hv
 have h3 := List.find?_some h1
 have h4 := List.mem_of_find?_eq_some h1
 simp at h3 h2
 subst h3; subst h2; exact h4
theorem jg {kvs : List (Str × V)} {k : Str} {v : V} {q : Str × V} (h : q ∈ bb kvs k v) : q = (k, v) ∨ q ∈ kvs := by
 unfold bb at h
 split at h
 ·obtain ⟨r, hr, rfl⟩ := List.mem_map.mp h
  by_cases c : r.1 = k
  ·rw [if_pos c, c]; exact .inl rfl
  ·rw [if_neg c]; exact .inr hr
 ·rcases List.mem_append.mp h with h | h
  ·exact .inr h
  ·simp at h; exact .inl h
theorem bW (kvs : List (Str × V)) (k : Str) (v : V) : ∀ x, x ∈ (bb kvs k v).map (·.1) ↔ x = k ∨ x ∈ kvs.map (·.1) := by
 intro x
 unfold bb
 split
 ·rename_i h
  have e : (kvs.map fun kv => if kv.1 = k then (kv.1, v) else kv).map (·.1) = kvs.map (·.1) := by
   rw [List.map_map]; apply List.map_congr_left; intro q _; simp only [Function.comp]; split <;> rfl
  rw [e]
  have hk : k ∈ kvs.map (·.1) := by
   obtain ⟨q, hq, e⟩ := List.any_eq_true.mp h
   exact List.mem_map.mpr ⟨q, hq, by simpa using e⟩
  constructor
  ·exact .inr
  ·rintro (rfl | h)
   ·exact hk
   ·exact h
 ·simp only [List.map_append, List.mem_append, List.map_cons, List.map_nil, List.mem_singleton]
  constructor
  ·rintro (h | h)
   ·exact .inr h
   ·exact .inl h
  ·rintro (h | h)
   ·exact .inr h
   ·exact .inl h
theorem d8 {kvs : List (Str × V)} {k : Str} {v : V} (h : (kvs.map (·.1)).Nodup) : ((bb kvs k v).map (·.1)).Nodup := by
 unfold bb
 split
 ·have e : (kvs.map fun kv => if kv.1 = k then (kv.1, v) else kv).map (·.1) = kvs.map (·.1) := by
   rw [List.map_map]; apply List.map_congr_left; intro q _; simp only [Function.comp]; split <;> rfl
  rw [e]; exact h
 ·rename_i hn
  rw [List.map_append, List.nodup_append]
  refine ⟨h, by simp, ?_⟩
  intro a ha b hb
  simp at hb
  subst hb
  rintro rfl
  obtain ⟨q, hq, e⟩ := List.mem_map.mp ha
  exact hn (List.any_eq_true.mpr ⟨q, hq, by simpa using e⟩)
theorem ei (kvs : List (Str × V)) (k : Str) : ∀ x, x ∈ (fw kvs k).map (·.1) ↔ x ≠ k ∧ x ∈ kvs.map (·.1) := by
 intro x
 unfold fw
 constructor
 ·intro h
  obtain ⟨q, hq, rfl⟩ := List.mem_map.mp h
  obtain ⟨h1, h2⟩ := List.mem_filter.mp hq
  exact ⟨by simpa using h2, List.mem_map.mpr ⟨q, h1, rfl⟩⟩
 ·rintro ⟨h1, h2⟩
  obtain ⟨q, hq, rfl⟩ := List.mem_map.mp h2
  exact List.mem_map.mpr ⟨q, List.mem_filter.mpr ⟨hq, by simpa using h1⟩, rfl⟩
theorem pA {kvs : List (Str × V)} {k : Str} (h : (kvs.map (·.1)).Nodup) : ((fw kvs k).map (·.1)).Nodup := h.sublist (List.filter_sublist.map _)
theorem sQ {kvs : List (Str × V)} {k : Str} {q : Str × V} (h : q ∈ fw kvs k) : q ∈ kvs := (List.mem_filter.mp h).1
end Mine
end
noncomputable section
namespace Mine
open PySem AutoSeq1 MeetsSeq MeetsSeq2 MeetsSeq3 SeqRoads2
section
variable {C : Cx} {A : Around} {s : Shared}
end
end Mine
end
noncomputable section
namespace Mine
open PySem AutoSeq1 MeetsSeq MeetsSeq2 MeetsSeq3 SeqRoads2
section
variable {C : Cx}
end
end Mine
end
noncomputable section
namespace Mine
open PySem PySem.W PyProof.Rows PySem.Calls
section
variable {C : Cx} {sc : Scope} {k : Nat}
theorem PRel.keys {aS : Addr} {h : Heap} {a : List (Str × V)} {b : List (Str × Value)} (x : PRel aS h a b) : a.map (·.1) = b.map (·.1) :=
 x.ind (P := fun a b => a.map (·.1) = b.map (·.1)) rfl fun _ _ _ _ _ _ _ ih => by rw [List.map_cons, List.map_cons, ih]
end
end Mine
end
noncomputable section
set_option tactic.hygienic false
namespace Mine
open PySem PySem.W PyProof.Rows
theorem lZ : ∀ (l : List Str) (p : Str), risingS p l = true → (p :: l).Pairwise fun x y => ¬ y.cps.toList < x.cps.toList
 | [], _, _ => List.pairwise_singleton _ _
 | x :: r, p, h => by
  unfold risingS at h
  rw [Bool.and_eq_true, ltCps_eq, Bool.not_eq_true', decide_eq_false_iff_not] at h
  have ih := lZ r x h.2
  refine List.pairwise_cons.mpr ⟨fun y hy => ?_, ih⟩
  rcases List.mem_cons.mp hy with rfl | hy
  ·exact h.1
  ·exact fun z => h.1 (List.lt_of_le_of_lt (List.not_lt.mp ((List.pairwise_cons.mp ih).1 y hy)) z)
noncomputable def Lv {α : Type} (n : Nat) (P : α → Prop) : KasT α → Prop
 | .ret a => P a
 | .ask i j k => (i < n ∧ j < n) ∧ ∀ b, Lv n P (k b)
section
variable {α β : Type} {n : Nat}
theorem Lv.bind {P : α → Prop} {P' : β → Prop} {f : α → KasT β} (hf : ∀ a, P a → Lv n P' (f a)) : ∀ {t : KasT α}, Lv n P t → Lv n P' (t.bind f)
 | .ret a, h => hf a h
 | .ask i j k, h => ⟨h.1, fun b => Lv.bind hf (h.2 b)⟩
theorem Lv.wp {P : α → Prop} {cmp : Nat → Nat → (Bool → Shared → Prop) → Shared → Prop} {G : α → Shared → Prop} {s : Shared} (hc : ∀ i j (C : Bool → Shared → Prop), i < n → j < n → (∀ b, C b s) → cmp i j C s) (hG : ∀ a, P a → G a s) : ∀ {t : KasT α}, Lv n P t → t.kasWp cmp G s
 | .ret a, h => hG a h
 | .ask i j k, h => hc i j _ h.1.1 h.1.2 fun b => Lv.wp hc hG (h.2 b)
theorem Lv.ret {P : α → Prop} {a : α} (h : P a) : Lv n P (.ret a) := h
theorem Lv.ask {P : α → Prop} {i j : Nat} {k : Bool → KasT α} (h1 : i < n) (h2 : j < n) (h : ∀ b, Lv n P (k b)) : Lv n P (.ask i j k) := ⟨⟨h1, h2⟩, h⟩
theorem Lv.ite {P : α → Prop} {c : Prop} [Decidable c] {t u : KasT α} (h1 : Lv n P t) (h2 : Lv n P u) : Lv n P (if c then t else u) := by
 split
 ·exact h1
 ·exact h2
end
section
variable {n : Nat} {p₀ p : Array Nat}
noncomputable def Rw (n : Nat) (p : Array Nat) : Prop := p.Perm (List.toArray (List.range n))
theorem Rw.at (h : Rw n p) (hn : 0 < n) (i : Nat) : p.getD i 0 < n := by
 by_cases hi : i < p.size
 ·have e : p.getD i 0 = p[i] := by simp [Array.getD, hi]
  rw [e]
  have := (Array.perm_iff_toList_perm.mp h).mem_iff.mp (Array.getElem_mem_toList hi)
  exact List.mem_range.mp (by simpa using this)
 ·have e : p.getD i 0 = 0 := by simp [Array.getD, hi]
  rw [e]; exact hn
theorem Rw.rev (h : Rw n p) (i j : Nat) : Rw n (kas_rev p i j) := (mirror_perm _ _ _ _).trans h
variable (hn : 0 < n)
include hn
theorem pX (h : Rw n p) : ∀ f k, Lv n (fun _ => True) (kas_asc p f k)
 | 0, _ => trivial
 | f + 1, k => ⟨⟨h.at hn _, h.at hn _⟩, fun _ => Lv.ite trivial (pX h f (k + 1))⟩
theorem jP : ∀ f {p : Array Nat} (k q : Nat), Rw n p → Lv n (fun r => Rw n r.1) (kas_desc f p k q)
 | 0, _, _, _, h => h
 | f + 1, p, k, q, h => ⟨⟨h.at hn _, h.at hn _⟩, fun _ => Lv.ite (Lv.ite (jP f _ _ (h.rev _ _)) (jP f _ _ h)) ⟨⟨h.at hn _, h.at hn _⟩, fun _ => Lv.ite h (jP f _ _ h)⟩⟩
theorem on (h : Rw n p) (k r : Nat) : Lv n (fun r => Rw n r.2) (kas_tail3 k r p) := by
 unfold kas_tail3
 refine Lv.bind (fun m _ => ?_) (pX hn (h.rev _ _) _ _)
 exact Lv.ret (P := fun r : Nat × Array Nat => Rw n r.2) (h.rev _ _)
theorem jl (h : Rw n p) (k r : Nat) : Lv n (fun r => Rw n r.2) (kas_descPart k r p) := by
 unfold kas_descPart
 refine Lv.bind (fun r ha => ?_) (jP hn _ _ _ h)
 exact Lv.ite (on hn (ha.rev _ _) _ _) (on hn ha _ _)
theorem tR (h : Rw n p) (r : Nat) : Lv n (fun r => Rw n r.2) (kas_count r p) := by
 unfold kas_count
 refine Lv.bind (fun m _ => ?_) (pX hn h _ _)
 have hr : ∀ m, Lv n (fun r : Nat × Array Nat => Rw n r.2) (.ret (m, p)) := fun _ => h
 exact Lv.ite (hr _) (Lv.ite (Lv.ask (h.at hn _) (h.at hn _) fun _ => Lv.ite (hr _) (jl hn (h.rev _ _) _ _)) (jl hn h _ _))
theorem kF (h : Rw n p) (k : Nat) : ∀ f l r, Lv n (fun _ => True) (kas_place p k f l r)
 | 0, _, _ => trivial
 | f + 1, l, r => Lv.ite trivial ⟨⟨h.at hn _, h.at hn _⟩, fun _ => Lv.ite (kF h k f _ _) (kF h k f _ _)⟩
theorem tS : ∀ f {p : Array Nat} (k : Nat), Rw n p → Lv n (Rw n) (kas_bin f p k)
 | 0, _, _, h => h
 | f + 1, p, k, h => Lv.bind (fun _ _ => tS f _ ((bubble_perm _ _ _).trans h)) (kF hn h k _ _ _)
theorem vG : Lv n (Rw n) (kas_sort n) := by
 unfold kas_sort
 refine Lv.bind (fun r ha => ?_) (tR hn (Array.Perm.refl _) n)
 exact Lv.ite (tS hn _ _ ha) (Lv.ret ha)
end
section
variable {prog : Program} {w : World} {A : Around} {E : Value → Shared → Prop} {s : Shared} {kd : SortKind}
theorem pQ (vs : List Value) : (List.range vs.length).map (fun i => vs.getD i Value.none) = vs := by
 refine List.ext_getElem (by simp) fun i h1 h2 => ?_
 simp [List.getD_eq_getElem?_getD, List.getElem?_eq_getElem h2]
theorem s4 {a : Addr} {vs : List Value} {n : Nat} {P : PySem.Fin → Shared → Prop} (ho : s.heap.get? a = some (seqObj "list" vs.toArray n)) (h64 : vs.length < 64)
  (hkk : 2 ≤ vs.length → ∀ s' : Shared, (∀ b o, b ≠ a → s.heap.get? b = some o → s'.heap.get? b = some o) → ∀ Q : SortKind → Shared → Prop, Q kd s' → wpAny (model prog w) A (keyKind' vs.toArray) Q E s')
  (hL : ∀ s' : Shared, (∀ b o, b ≠ a → s.heap.get? b = some o → s'.heap.get? b = some o) → ∀ x ∈ vs, ∀ y ∈ vs, ∀ C : Bool → Shared → Prop, (∀ b, C b s') → wpAny (model prog w) A (keyLt' kd x y) C (fun _ _ => False) s')
  (h : ∀ out : List Value, out.Perm vs → P (.done (.ret .none)) { s with heap := sortedHeap s.heap a vs out.toArray }) :
  wpAny (model prog w) A (Builtin.«list.sort» ⟨[.ref a], []⟩) P E s := by
 rw [list_sort_plain]
 have hz : vs.length ≤ 16777216 := Nat.le_of_lt (Nat.lt_trans h64 (by decide))
 have ha : a < s.heap.objs.size := Heap.lt_size ho
 refine wpAny_bind (listItems_at ho rfl ?_)
 refine wpAny_bind (listUpdate_at ho rfl ?_ (hsz := by rw [List.size_toArray]; exact hz) (hsz2 := by simp))
 obtain ⟨e1, ho1⟩ : ∃ e1, (s.heap.update a (Obj.mapSeq fun _ => #[])).get? a = some (seqObj "list" #[] e1) := ⟨_, get?_update_seq ho (fun _ => #[])⟩
 refine wpAny_bind (seqEpoch_at ho1 rfl ?_)
 refine wpAny_bind (wpAny_newTuple ?_ (by rw [List.toList_toArray]; exact hz))
 refine wpAny_bind (wpAny_newList ?_)
 refine wpAny_holding ?_
 have ho6 : (((s.heap.update a (Obj.mapSeq fun _ => #[])).push (seqObj "tuple" vs.toArray 0)).push (seqObj "list" #[] 0)).get? a = some (seqObj "list" #[] e1) := by
  rw [Heap.get?_push_ne _ _ _ (by rw [size_push', Heap.size_update]; exact Nat.ne_of_lt (Nat.lt_succ_of_lt ha)), Heap.get?_push_ne _ _ _ (by rw [Heap.size_update]; exact Nat.ne_of_lt ha)]
  exact ho1
 have hkeep : ∀ b o, b ≠ a → s.heap.get? b = some o → (((s.heap.update a (Obj.mapSeq fun _ => #[])).push (seqObj "tuple" vs.toArray 0)).push (seqObj "list" #[] 0)).get? b = some o := by
  intro b o hb e
  have hlt := Heap.lt_size e
  rw [Heap.get?_push_ne _ _ _ (by rw [size_push', Heap.size_update]; exact Nat.ne_of_lt (Nat.lt_succ_of_lt hlt)), Heap.get?_push_ne _ _ _ (by rw [Heap.size_update]; exact Nat.ne_of_lt hlt), Heap.get?_update_ne _ _ _ _ hb]
  exact e
 show wpAny (model prog w) A _ P E { s with heap := ((s.heap.update a (Obj.mapSeq fun _ => #[])).push (seqObj "tuple" vs.toArray 0)).push (seqObj "list" #[] 0) }
 dsimp only
 by_cases h2 : vs.toArray.size < 2
 ·rw [if_pos h2, if_pos h2]
  refine wpAny_bind (wpAny_pure ?_)
  rw [StateT.run_pure]
  refine wpAny_bind (wpAny_pure ?_)
  dsimp only
  refine wpAny_bind (seqEpoch_at ho6 rfl ?_)
  refine wpAny_bind (listUpdate_at ho6 rfl ?_ (hsz2 := by rw [Array.size_map]; show (pairsOf vs).size ≤ _; rw [pairsOf_size]; exact Nat.le_succ_of_le hz))
  simp only [bne_self_eq_false, Bool.false_eq_true, if_false]
  have e : ((arrOf (SortSt.mk' general' (vs.toArray.zip vs.toArray) #[] 7 none)).map (·.2)) = vs.toArray := by
   show (vs.toArray.zip vs.toArray).map (·.2) = _
   apply Array.toList_inj.mp
   simp [List.map_snd_zip]
  have := h vs (List.Perm.refl _)
  rw [← e] at this
  exact wpAny_pure this
 ·rw [if_neg h2, if_neg h2]
  have h2' : 2 ≤ vs.length := Nat.le_of_not_lt h2
  refine wpAny_bind (hkk h2' _ hkeep _ ?_)
  refine wpAny_bind (wpAny_mono (kat_run (ks := vs) (vs := vs) (κ := kd) (Q := fun st' s' => failedOf st' = none ∧ s' = _ ∧ ∃ out : List Value, out.Perm vs ∧ (arrOf st').map (·.2) = out.toArray) (G := fun p s' => Rw vs.length p ∧ s' = _) rfl h2' h64 (fun p st' s' _ har hf hG => ⟨hf, hG.2, _, ?_, kat_snds rfl har⟩)
   (Lv.wp (fun i j C hi hj hC => hL _ hkeep _ ?_ _ ?_ C hC) (fun p hp => ⟨hp, rfl⟩) (vG (Nat.lt_of_lt_of_le (by decide) h2')))) ?_ fun _ _ e => e)
  ·have := ((Array.perm_iff_toList_perm.mp hG.1).map fun i => vs.getD i Value.none)
   rw [List.toList_toArray, pQ] at this
   exact this
  ·rw [List.getD_eq_getElem?_getD, List.getElem?_eq_getElem hi]; exact List.getElem_mem hi
  ·rw [List.getD_eq_getElem?_getD, List.getElem?_eq_getElem hj]; exact List.getElem_mem hj
  rintro ⟨⟨⟩, st'⟩ s' ⟨hf, hs', out, hp, he⟩
  subst hs'
  dsimp only at he hf ⊢
  refine wpAny_bind (seqEpoch_at ho6 rfl ?_)
  refine wpAny_bind (listUpdate_at ho6 rfl ?_ (hsz2 := by rw [he, List.size_toArray, hp.length_eq]; exact Nat.le_succ_of_le hz))
  rw [hf, he]
  simp only [bne_self_eq_false, Bool.false_eq_true, if_false]
  exact wpAny_pure (h out hp)
theorem rD {a : Addr} {vs : List Value} {ss : List Str} {n : Nat} {P : PySem.Fin → Shared → Prop} (ho : s.heap.get? a = some (seqObj "list" vs.toArray n)) (h64 : vs.length < 64) (hS : StrsAre vs ss)
  (h : ∀ (out : List Value) (ss' : List Str), StrsAre out ss' → ss'.Perm ss → (ss'.Pairwise fun x y => ¬ y.cps.toList < x.cps.toList) → P (.done (.ret .none)) { s with heap := sortedHeap s.heap a vs out.toArray }) :
  wpAny (model prog w) A (Builtin.«list.sort» ⟨[.ref a], []⟩) P E s := by
 refine list_sort_treeK strKind_oneLt ho hS.keysOf (fun v₁ v₂ rest e => keyKind_strs (by rw [← e]; exact hS)) h64 fun st' hp hs => ?_
 obtain ⟨ss', h1, h2, h3⟩ := sorted_out_str hS hp hs
 have h4 : ss'.Pairwise fun x y => ¬ y.cps.toList < x.cps.toList := by
  cases ss' with
  | nil => exact List.Pairwise.nil
  | cons x r => exact lZ r x h3
 have := h _ ss' h1 h2 h4
 rwa [Array.toArray_toList] at this
end
end Mine
end
noncomputable section
namespace Mine
open PySem PyProof.Rows
theorem vJ (t : SetTable) (es : Array (Int × Value)) (h : Int) (x : Value) : (layNew t es h x).2.1.led = t.led ∧ (t.plain = false → (layNew t es h x).2.1.plain = false) := by
 unfold layNew
 split
 ·dsimp only
  unfold SetTable.orStandIn
  split
  ·exact ⟨rfl, fun h => h⟩
  ·exact ⟨rfl, fun _ => rfl⟩
 ·exact ⟨rfl, fun _ => rfl⟩
theorem rM (t : SetTable) (es : Array (Int × Value)) (n : Nat) : (relayAll t es n).2.1.led = t.led ∧ (t.plain = false → (relayAll t es n).2.1.plain = false) := by
 unfold relayAll
 split
 ·rename_i t' order hr
  have h1 : t'.led = t.led ∧ t'.plain = t.plain := by
   unfold SetTable.relaid SetTable.laid at hr
   obtain ⟨ow, -, hr⟩ := Option.bind_eq_some_iff.mp hr
   cases hr
   exact ⟨rfl, rfl⟩
  dsimp only
  split
  ·exact ⟨h1.1, fun h => h1.2.trans h⟩
  ·exact ⟨rfl, fun _ => rfl⟩
 ·exact ⟨rfl, fun _ => rfl⟩
inductive SetX (prog : Program) (w : World) (h : Heap) (a : Addr) (led : Bool) (ks : List Str) : Prop
 | mk (o : Obj) (es : Array (Int × Value)) (ep : Nat) (t : SetTable) (_ : h.get? a = some o) (_ : o.ExactSet) (_ : o.data = .set es ep t) (_ : ElemsOf (PySem.strKind prog w) es.toList) (_ : es.size < scanBound) (_ : t.fits es.size = true) (_ : t.led = led) (_ : es.size ≠ 0 → t.plain = false)
   (_ : StrsAre (es.toList.map (·.2)) ks) (_ : ks.Nodup)
theorem gb {vs vs' : List Value} {ks : List Str} (h : StrsAre vs ks) (p : vs'.Perm vs) : ∃ ks', StrsAre vs' ks' ∧ ks'.Perm ks := by
 refine ⟨vs'.map strOf, strsAre_map vs' fun v hv => h.all v (p.mem_iff.mp hv), ?_⟩
 rw [← h.strs]
 exact p.map _
theorem sU {vs us : List Value} {ks js : List Str} (h : StrsAre vs ks) (h' : StrsAre us js) : StrsAre (vs ++ us) (ks ++ js) := by
 induction h with
 | nil => exact h'
 | cons x t r ih => exact .cons x t ih
section
variable {prog : Program} {w : World} {A : Around} {E : Value → Shared → Prop} {s : Shared}
theorem s6 (x : Str) (t : Tok) : (PySem.strKind prog w).is x (.str x t) = true := by
 show Value.isStrOf x (.str x t) = true
 simp [Value.isStrOf]
theorem yT {k : Str} {v : Value} (h : (PySem.strKind prog w).is k v = true) : ∃ t, v = .str k t := Value.isStrOf_shape h
theorem kh {h : Heap} {a : Addr} {o : Obj} {es es' : Array (Int × Value)} {ep : Nat} {t t' : SetTable} {led : Bool} {ks : List Str} (ho : h.get? a = some o) (hex : o.ExactSet) (hd : o.data = .set es ep t)
  (hel : ElemsOf (PySem.strKind prog w) es'.toList) (hb : es'.size < scanBound) (hf : t'.fits es'.size = true) (hl : t'.led = led) (hp : t'.plain = false) (hS : StrsAre (es'.toList.map (·.2)) ks) (hn : ks.Nodup) :
  (h.update a (Obj.putSet es' t')).get? a = some { o with data := .set es' (ep + 1) t' } ∧ SetX prog w (h.update a (Obj.putSet es' t')) a led ks := by
 have hg : (h.update a (Obj.putSet es' t')).get? a = some { o with data := .set es' (ep + 1) t' } := by
  have := Heap.get?_update_self (Obj.putSet es' t') ho (by rw [putSet_of es' t' hd]; rfl)
  rw [putSet_of es' t' hd] at this; exact this
 exact ⟨hg, ⟨_, es', ep + 1, t', hg, hex, rfl, hel, hb, hf, hl, fun _ => hp, hS, hn⟩⟩
theorem s8 {a : Addr} {led : Bool} {ks : List Str} {x : Str} {u : Tok} {Q : Bool → Shared → Prop} (hS : SetX prog w s.heap a led ks) (hroom : ks.length + 1 < scanBound)
  (h : ∀ h' ks', Heap.SameBut a s.heap h' → SetX prog w h' a led ks' → (∀ y, y ∈ ks' ↔ y = x ∨ y ∈ ks) → ks'.length ≤ ks.length + 1 → ∀ b, Q b { s with heap := h' }) :
  wpAny (model prog w) A (setAddHashed a (.str x u) ((PySem.strKind prog w).hash x)) Q E s := by
 obtain ⟨o, es, ep, t, ho, hex, hd, hel, hb, hf, hled, hpl, hks, hnd⟩ := hS
 have hsize : es.size = ks.length := by
  have h1 := congrArg List.length hks.strs
  simpa using h1
 have hkey := s6 (prog := prog) (w := w) x u
 have hsc : (Value.str x u).scannable = true := rfl
 unfold setAddHashed setAddHashedIn
 refine wpAny_holding (wpAny_bind (wpAny_setState_of ho hd hf ?_))
 dsimp only
 rw [byScan_of hsc hb hel]
 simp only [↓reduceIte]
 unfold setAddByScan
 refine wpAny_bind ?_
 refine wpAny_bind (wpAny_rule ?_)
 refine wpAny_bind (wpAny_setScan_of hkey ho hd hf hel ?_)
 have hmem : (∃ e ∈ es.toList, (PySem.strKind prog w).is x e.2 = true) ↔ x ∈ ks := by
  rw [← hks.strs]
  constructor
  ·rintro ⟨e, he, hp⟩
   obtain ⟨t', e'⟩ := yT hp
   exact List.mem_map.mpr ⟨e.2, List.mem_map.mpr ⟨e, he, rfl⟩, by rw [e']; rfl⟩
  ·intro hx
   obtain ⟨v, hv, e1⟩ := List.mem_map.mp hx
   obtain ⟨e, he, rfl⟩ := List.mem_map.mp hv
   obtain ⟨y, t', e2⟩ := hks.all _ hv
   rw [e2] at e1
   have : y = x := e1
   subst this
   exact ⟨e, he, by rw [e2]; exact s6 _ _⟩
 cases hr : List.findIdx? (fun e => (PySem.strKind prog w).is x e.2) es.toList with
 | some j =>
  dsimp only
  obtain ⟨hj, hpj, _⟩ := List.findIdx?_eq_some_iff_getElem.mp hr
  have hxk : x ∈ ks := hmem.mp ⟨es.toList[j], List.getElem_mem hj, hpj⟩
  refine wpAny_pure (wpAny_pure ?_)
  exact h s.heap ks (Heap.SameBut.refl a s.heap) ⟨o, es, ep, t, ho, hex, hd, hel, hb, hf, hled, hpl, hks, hnd⟩ (fun y => ⟨.inr, fun z => z.elim (fun z => z ▸ hxk) id⟩) (Nat.le_succ _) _
 | none =>
  dsimp only
  have hxk : x ∉ ks := fun hx => by
   obtain ⟨e, he, hp⟩ := hmem.mpr hx
   have := List.findIdx?_eq_none_iff.mp hr e he
   rw [hp] at this; exact Bool.noConfusion this
  have hperm := layNew_perm t es ((PySem.strKind prog w).hash x) (.str x u)
  have hfits := layNew_fits t es ((PySem.strKind prog w).hash x) (.str x u)
  have hlays := vJ t es ((PySem.strKind prog w).hash x) (.str x u)
  generalize hL : layNew t es ((PySem.strKind prog w).hash x) (.str x u) = L at hperm hfits hlays ⊢
  obtain ⟨es1, t1, wasDummy, gave⟩ := L
  dsimp only at hperm hfits hlays ⊢
  rw [Array.toList_push] at hperm
  have hel1 : ElemsOf (PySem.strKind prog w) es1.toList := (hel.push hkey hsc).perm hperm
  have hsz1 : es1.size = ks.length + 1 := by rw [← Array.length_toList, hperm.length_eq, List.length_append, Array.length_toList, hsize]; rfl
  have hb1 : es1.size < scanBound := by exact oj fun hg => lN [(ks.length), scanBound, (es1.size)] 0x314241982520c61 rfl hroom (Nat.le_of_eq hsz1) hg
  have hp1 : (es1.toList.map (·.2)).Perm (es.toList.map (·.2) ++ [Value.str x u]) := by
   have := hperm.map (·.2)
   rwa [List.map_append] at this
  obtain ⟨ks1, hks1, hpk⟩ := gb (sU hks (.cons x u .nil)) hp1
  have hmem1 : ∀ y, y ∈ ks1 ↔ y = x ∨ y ∈ ks := fun y => by
   rw [hpk.mem_iff, List.mem_append, List.mem_singleton]
   exact Or.comm
  have hnd1 : ks1.Nodup := by
   refine hpk.nodup_iff.mpr (List.nodup_append.mpr ⟨hnd, by simp, ?_⟩)
   intro y hy z hz
   rw [List.mem_singleton.mp hz]
   rintro rfl; exact hxk hy
  have hlen1 : ks1.length ≤ ks.length + 1 := by rw [hpk.length_eq, List.length_append]; exact Nat.le_refl _
  have fin : ∀ t2 : SetTable, t2.fits es1.size = true → t2.led = led → t2.plain = false →
    wpAny (model prog w) A (do
     storeSet a es1 t2
     if (!wasDummy && t2.tooFull) = true then do
       (match (relayAll t2 es1 (SetTable.grown es1.size)).2.2 with | true => rule "set.scan.the-table-gave-way" | false => pure () : Sem Unit)
       storeSet a (relayAll t2 es1 (SetTable.grown es1.size)).1 (relayAll t2 es1 (SetTable.grown es1.size)).2.1
       pure (some true)
      else pure (some true)) (fun r s' => wpAny (model prog w) A (match r with | some added => pure added | none => setAddHashedIn a (.str x u) ((PySem.strKind prog w).hash x) 99999) Q E s') E s := by
   intro t2 hf2 hl2 hpl2
   refine wpAny_bind (wpAny_storeSet_of ho hd ?_ (fits_of_scanBound hb1))
   obtain ⟨ho1, hS1⟩ := kh (prog := prog) (w := w) ho hex hd hel1 hb1 hf2 hl2 hpl2 hks1 hnd1
   have hsb1 := Heap.SameBut.update s.heap a (Obj.putSet es1 t2)
   split
   ·have hp := relayAll_perm t2 es1 (SetTable.grown es1.size)
    have hfr := relayAll_fits t2 es1 (SetTable.grown es1.size)
    have hlr := rM t2 es1 (SetTable.grown es1.size)
    generalize hRl : relayAll t2 es1 (SetTable.grown es1.size) = Rl at hp hfr hlr ⊢
    obtain ⟨es2, t3, gave2⟩ := Rl
    dsimp only at hp hfr hlr ⊢
    have hel2 : ElemsOf (PySem.strKind prog w) es2.toList := hel1.perm hp
    have hsz : es2.size = es1.size := by rw [← Array.length_toList, hp.length_eq, Array.length_toList]
    have hb2 : es2.size < scanBound := by rw [hsz]; exact hb1
    obtain ⟨ks2, hks2, hpk2⟩ := gb hks1 (hp.map (·.2))
    have step2 : wpAny (model prog w) A (do
      storeSet a es2 t3
      pure (some true)) (fun r s' => wpAny (model prog w) A (match r with | some added => pure added | none => setAddHashedIn a (.str x u) ((PySem.strKind prog w).hash x) 99999) Q E s') E { s with heap := s.heap.update a (Obj.putSet es1 t2) } := by
     refine wpAny_bind (wpAny_storeSet_of ho1 rfl ?_ (fits_of_scanBound hb2))
     obtain ⟨_, hS2⟩ := kh (prog := prog) (w := w) ho1 hex rfl hel2 hb2 hfr (hlr.1.trans hl2) (hlr.2 hpl2) hks2 (hpk2.nodup_iff.mpr hnd1)
     exact wpAny_pure (wpAny_pure (h _ ks2 (hsb1.trans (Heap.SameBut.update _ a _)) hS2 (fun y => hpk2.mem_iff.trans (hmem1 y)) (by rw [hpk2.length_eq]; exact hlen1) _))
    cases gave2
    ·exact wpAny_bind (wpAny_pure step2)
    ·exact wpAny_bind (wpAny_rule step2)
   ·exact wpAny_pure (wpAny_pure (h _ ks1 hsb1 hS1 hmem1 hlen1 _))
  have hgw : ∀ (b : Bool) {s₁ : Shared} {Q' : Unit → Shared → Prop}, Q' () s₁ → wpAny (model prog w) A (match b with | true => rule "set.scan.the-table-gave-way" | false => pure ()) Q' E s₁ :=
   fun b s₁ Q' hq => by cases b <;> first | exact wpAny_pure hq | exact wpAny_rule hq
  refine wpAny_bind (hgw _ ?_)
  by_cases hplain : t1.plain = true
  ·rw [if_pos hplain]
   refine wpAny_bind ?_
   rw [hashByValue_scannable 8 hsc]
   refine wpAny_pure ?_
   rw [show plainKind (Value.str x u) = false from rfl]
   simp only [Bool.false_eq_true, if_false]
   exact fin _ (SetTable.fits_plain_off hfits) (hlays.1.trans hled) rfl
  ·rw [if_neg hplain]
   refine wpAny_bind (wpAny_pure ?_)
   simp only [↓reduceIte]
   exact fin _ hfits (hlays.1.trans hled) (by simpa using hplain)
end
end Mine
end
noncomputable section
set_option tactic.hygienic false
namespace Mine
open PySem PyProof.Rows
theorem SetX.at {prog : Program} {w : World} {h h' : Heap} {a : Addr} {led : Bool} {ks : List Str} (x : SetX prog w h a led ks) (k : ∀ o, h.get? a = some o → h'.get? a = some o) : SetX prog w h' a led ks :=
 let ⟨o, es, ep, t, ho, h1, h2, h3, h4, h5, h6, h7, h8, h9⟩ := x; ⟨o, es, ep, t, k o ho, h1, h2, h3, h4, h5, h6, h7, h8, h9⟩
theorem qL : ∀ {vs : List Value} {ks : List Str}, StrsAre vs ks → ∀ (i : Nat) (h : i < ks.length), ∃ t, vs[i]? = some (.str ks[i] t)
 | _, _, .cons x t r, 0, _ => ⟨t, rfl⟩
 | _, _, .cons x t r, i + 1, h => by
  obtain ⟨t', e⟩ := qL r i (by simpa using h)
  exact ⟨t', by simpa using e⟩
section
variable {prog : Program} {w : World} {E : Value → Shared → Prop}
theorem rG {A : Around} {l I S : Addr} {items : Array Value} {ss : List Str} {led : Bool} {R : Result → Shared → Prop} (hh : A.handled = none) (hIl : l ≠ I) (hSI : S ≠ I) (hSl : S ≠ l) (hss : StrsAre items.toList ss) (hb : ss.length + 1 < scanBound) :
  ∀ (k i : Nat) (s : Shared) (ks : List Str), items.size - i = k → i ≤ items.size → s.heap.IsListIter I l i → s.heap.IsList l items → SetX prog w s.heap S led ks → ks.length ≤ i → (∀ y, y ∈ ks ↔ y ∈ ss.take i) →
   (∀ h' tk ks', SetX prog w h' S led ks' → (∀ y, y ∈ ks' ↔ y ∈ ss) → (∀ b o, b ≠ S → b ≠ I → s.heap.get? b = some o → h'.get? b = some o) → R (.ok (.ret .none)) { s with heap := h', toks := tk }) →
   codeAny (model prog w) A (.builtin "set.update.loop" ⟨[.ref S, .ref I], []⟩) R s := by
 have hlen : items.size = ss.length := by have := congrArg List.length hss.strs; simpa using this
 intro k
 induction k with
 | zero =>
  intro i s ks hk hi st hl hS hle hmem hR
  have hin : i = items.size := Nat.le_antisymm hi (Nat.le_of_sub_eq_zero hk)
  refine codeAny_builtin F.entry_set_update_loop ?_
  rw [Around.under_plainId F.plain_set_update_loop _]
  show wpAny _ A.in1 (pyNext (.ref I) >>= _) _ _ s
  refine wpAny_bind (wpAny_pyNext_list_end (by show A.handled = _; exact hh) st hl (by simp; exact Nat.le_of_eq hin.symm) fun h' hx => ?_)
  show wpAny _ A.in1 (ret Value.none) _ _ _
  refine wpAny_pure (hR h' s.toks ks (hS.at fun o e => hx S o hSI e) (fun y => ?_) fun b o _ hbI e => hx b o hbI e)
  rw [hmem y, hin, hlen, List.take_length]
 | succ k ih =>
  intro i s ks hk hi st hl hS hle hmem hR
  have hlt : i < items.size := by exact oj fun hg => lN [(items.size), (items.size - i), k, i] 0x390243940129861 rfl (Nat.le_of_eq (Eq.symm hk)) (dj (dK fun hg => lN [(items.size), i] 0x1483090a1 rfl hi hg)) hg
  have hlt2 : i < ss.length := by exact Nat.lt_of_lt_of_eq hlt hlen
  obtain ⟨t, et⟩ := qL hss i hlt2
  refine codeAny_builtin F.entry_set_update_loop ?_
  rw [Around.under_plainId F.plain_set_update_loop _]
  show wpAny _ A.in1 (pyNext (.ref I) >>= _) _ _ s
  refine wpAny_bind (wpAny_pyNext_list_item st hl (x := .str ss[i] t) (by rw [← Array.getElem?_toList]; exact et) fun h' st' hs' => ?_)
  have hS' := hS.at (h' := h') fun o e => hs'.extBut S o hSI e
  have hl' : h'.IsList l items := hl.extBut hs'.extBut hIl
  show wpAny _ A.in1 (holding [Value.str ss[i] t] (setAdd S (.str ss[i] t)) >>= _) _ _ _
  refine wpAny_bind (wpAny_holding ?_)
  unfold setAdd
  refine wpAny_holding ?_
  refine wpAny_bind ((PySem.strKind prog w).pyHash (k := ss[i]) (s6 _ _) ?_)
  refine s8 (s := { s with heap := h', toks := s.toks + 1 }) hS' (by exact oj fun hg => lN [(ss.length), scanBound, (items.size), i, (ks.length)] 0x2065098e309d012182520c61 rfl hb (Nat.le_of_eq hlen) hle hlt hg) fun h'' ks' hsb hS2 hm2 hl2 b => ?_
  have keep : ∀ b o, b ≠ S → b ≠ I → s.heap.get? b = some o → h''.get? b = some o := fun b o h1 h2 e => hsb.extBut b o h1 (hs'.extBut b o h2 e)
  refine wpAny_pure ⟨plainId_quiet F.plain_set_update_loop _, ih (i + 1) _ ks' (by rw [Nat.sub_add_eq, hk]; rfl) hlt (st'.at fun o e => hsb.extBut I o (Ne.symm hSI) e) (hl'.extBut hsb.extBut (Ne.symm hSl)) hS2 (by exact dK fun hg => lN [i, (ks.length), (ks'.length)] 0x3106309466090a1 rfl hle hl2 hg) (fun y => ?_) fun h3 tk ks3 a1 a2 a3 => ?_⟩
  ·rw [hm2 y, List.take_add_one, List.getElem?_eq_getElem hlt2, List.mem_append, hmem y]
   simp only [Option.toList_some, List.mem_singleton]
   exact Or.comm
  ·exact hR h3 tk ks3 a1 a2 fun b o h1 h2 e => a3 b o h1 h2 (keep b o h1 h2 e)
theorem s7 {A : Around} {s : Shared} (a : Value) {Q₁ : Value → Shared → Prop}
  (h : Q₁ (.ref s.heap.objs.size) { s with heap := s.heap.push { cls := .type "set", dict := none, data := .set #[] 0 (.fresh 0 0 (!w.params.followText "set-order")) } }) :
  codeAny (model prog w) A (.call (.builtin "set.__new__") ⟨[.type "set", a], []⟩) (wants Q₁ E) s := by
 refine codeAny_of_tree ?_
 show wpAny _ A.in1 (do checkBuiltinCall "set.__new__" ⟨[.type "set", a], []⟩; again (.builtin "set.__new__" ⟨[.type "set", a], []⟩)) _ _ s
 refine wpAny_bind (wpAny_of_eq (PySem.F.newCall_set_1 a) (wpAny_pure ⟨plainId_quiet PySem.F.plain_set_new _, codeAny_builtin PySem.F.entry_set_new ?_⟩))
 rw [Around.under_plainId PySem.F.plain_set_new _]
 unfold Builtin.«set.__new__» Builtin.Frozenset.newClass
 have hsub := sub_set_self
 obtain ⟨hp, g, d, tk, os⟩ := s
 dsimp only
 wp_walk
 refine wpAny_askSetting (wpAny_pure ?_)
 dsimp only
 simp only [newObj]
 refine wpAny_bind (wpAny_alloc (wpAny_pure ?_))
 exact wpAny_pure h
set_option maxRecDepth 100000 in
set_option maxHeartbeats 3200000 in
theorem sB {A : Around} {s : Shared} {l : Addr} {items : Array Value} {ss : List Str} {Q : Value → Shared → Prop} (hh : A.handled = none) (hl : s.heap.IsList l items) (hss : StrsAre items.toList ss) (hb : ss.length + 1 < scanBound)
  (h : ∀ (h' : Heap) (tk : Nat) (ks : List Str), SetX prog w h' s.heap.objs.size (!w.params.followText "set-order") ks → (∀ y, y ∈ ks ↔ y ∈ ss) →
   (∀ b o, s.heap.get? b = some o → h'.get? b = some o) → Q (.ref s.heap.objs.size) { s with heap := h', toks := tk }) :
  wpAny (model prog w) A (call (.type "set") [.ref l]) Q E s := by
 obtain ⟨c, tl, hmro⟩ := PySem.F.called_set.mro
 have hmade := PySem.F.called_set.made
 have hsub := PySem.F.called_set.sub
 refine wpAny_call (codeAny_of_tree ?_)
 show wpAny _ _ (callAny (.type "set") _) _ _ _
 refine wpAny_pure ⟨Code.quiet_builtin _ (by decide +kernel), codeAny_builtin PySem.F.entry_type_call ?_⟩
 rw [Around.under_plain (weight_type_call_type "set" [.ref l] []) rfl]
 have h1 := PySem.F.called_set.notType
 have h2 := PySem.F.called_set.canCreate
 have hct := PySem.F.typeCall_set_1 (.ref l)
 repeat (any_goals (first | assumption | wp_step))
 generalize hled : (!w.params.followText "set-order") = led at h
 refine codeAny_mono (s7 (.ref l) (E := E) (Q₁ := fun obj s₁ => obj = .ref s.heap.objs.size ∧ s₁ = { s with heap := s.heap.push { cls := .type "set", dict := none, data := .set #[] 0 (.fresh 0 0 led) } }) ⟨rfl, by rw [hled]⟩) fun r s₁ hr => ?_
 cases r with
 | error e => exact hr
 | ok fl =>
  cases fl with
  | ret obj =>
   obtain ⟨rfl, rfl⟩ := hr
   have hS : (s.heap.push { cls := .type "set", dict := none, data := .set #[] 0 (.fresh 0 0 led) }).get? s.heap.objs.size = some { cls := .type "set", dict := none, data := .set #[] 0 (.fresh 0 0 led) } := Heap.get?_push_size _ rfl
   have hT : Shared.TypeIs { s with heap := s.heap.push { cls := .type "set", dict := none, data := .set #[] 0 (.fresh 0 0 led) } } (.ref s.heap.objs.size) "set" := ⟨_, hS, rfl⟩
   have hli := PySem.F.called_set.init.lookup
   have hbi := PySem.F.called_set.init.bind (.ref s.heap.objs.size)
   repeat (any_goals (first | assumption | wp_step))
   refine codeAny_mono (codeAny_call_builtin (R := wants (fun r s₂ => r = .none ∧ ∃ h' tk ks, s₂ = { s with heap := h', toks := tk } ∧ SetX prog w h' s.heap.objs.size led ks ∧ (∀ y, y ∈ ks ↔ y ∈ ss) ∧
     (∀ b o, s.heap.get? b = some o → h'.get? b = some o)) E) PySem.F.called_set.init.plain PySem.F.entry_set_init (check_set_init_1 hT ?_)) fun r₂ s₂ hr₂ => ?_
   ·obtain ⟨ol, hol, hcl, nl, hdl⟩ := hl
    obtain ⟨ocls, odict, odata, oslots⟩ := ol
    simp only at hcl hdl
    subst hcl; subst hdl
    have hol' : (s.heap.push { cls := .type "set", dict := none, data := .set #[] 0 (.fresh 0 0 led) }).get? l = some { cls := .type "list", dict := odict, data := .seq items nl, slots := oslots } := Heap.get?_push_of_some _ hol
    have hsls := PySem.F.sub_list_set
    have hslf := PySem.F.sub_list_frozenset
    have hne : (Value.type "list" == Value.type "dict") = false := by decide
    have hl1 : (s.heap.push { cls := .type "set", dict := none, data := .set #[] 0 (.fresh 0 0 led) }).IsList l items := ⟨_, hol', rfl, nl, rfl⟩
    unfold Builtin.«set.__init__» noKeywords Builtin.Frozenset.updateFrom
    generalize hPI : pyIter = PI
    wp_walk
    subst hPI
    refine wpAny_pyIter_list hl1 ?_
    refine wpAny_bind (wpAny_runValue ?_)
    have hlS : l < s.heap.objs.size := Heap.lt_size hol
    have hh3 : A.in1.in1.in1.handled = none := by simp [hh]
    have hneI : l ≠ (s.heap.push { cls := .type "set", dict := none, data := .set #[] 0 (.fresh 0 0 led) }).objs.size := by
     rw [Heap.size_push]; exact Nat.ne_of_lt (Nat.lt_succ_of_lt hlS)
    have hSI : s.heap.objs.size ≠ (s.heap.push { cls := .type "set", dict := none, data := .set #[] 0 (.fresh 0 0 led) }).objs.size := by
     rw [Heap.size_push]; exact Nat.ne_of_lt (Nat.lt_succ_self _)
    refine rG (led := led) (by show A.handled = _; exact hh) hneI hSI (Nat.ne_of_gt hlS) hss hb (items.size - 0) 0 _ [] (by exact rfl) (Nat.zero_le _) ⟨_, Heap.get?_push_size _ rfl, rfl, rfl⟩ (hl1.push _)
     ⟨_, #[], 0, _, Heap.get?_push_of_some _ hS, ⟨rfl, rfl, rfl⟩, rfl, fun e he => by simp at he, by decide, by rfl, rfl, fun z => absurd rfl z, .nil, List.nodup_nil⟩ (Nat.le_refl _) (fun y => by simp) fun h' tk ks a1 a2 a3 => ?_
    show wpAny _ _ _ _ _ _
    refine wpAny_pure ?_
    show wpAny _ _ (ret Value.none) _ _ _
    refine wpAny_pure ⟨rfl, h', tk, ks, rfl, a1, a2, fun b o e => ?_⟩
    have hb0 := Heap.lt_size e
    exact a3 b o (Nat.ne_of_lt hb0) (by rw [Heap.size_push]; exact Nat.ne_of_lt (Nat.lt_succ_of_lt hb0)) (Heap.get?_push_of_some _ (Heap.get?_push_of_some _ e))
   ·cases r₂ with
    | error e => exact hr₂
    | ok fl₂ =>
     cases fl₂ with
     | ret r =>
      obtain ⟨rfl, h', tk, ks, rfl, a1, a2, a3⟩ := hr₂
      repeat (any_goals (first | assumption | wp_step))
      exact h _ _ ks a1 a2 a3
     | _ => exact hr₂.elim
  | _ => exact hr.elim
end
end Mine
end
noncomputable section
namespace Mine
open PySem PyProof.Rows
theorem bE : Slot "set_iterator" "__next__" "set_iterator.__next__" :=
 .of (owner := "set_iterator") (n := "__next__") (by rw [typeLookup_type, builtinLookup_eq_fast]; kernel_rfl) (by decide +kernel) (by decide +kernel) (by decide +kernel)
  (by first | exact .inl (by decide +kernel) | exact .inr (by decide +kernel)) (by rw [isSubtype_type]; kernel_rfl)
theorem fi : Slot "set_iterator" "__iter__" "set_iterator.__iter__" :=
 .of (owner := "set_iterator") (n := "__iter__") (by rw [typeLookup_type, builtinLookup_eq_fast]; kernel_rfl) (by decide +kernel) (by decide +kernel) (by decide +kernel)
  (by first | exact .inl (by decide +kernel) | exact .inr (by decide +kernel)) (by rw [isSubtype_type]; kernel_rfl)
theorem eA : entryFor table "set_iterator.__next__" = some Builtin.«set_iterator.__next__» := entryFor_of_tree (by kernel_rfl)
theorem fj (a : Value) : argsOk "set_iterator.__next__" ⟨[a], []⟩ := by unfold argsOk; kernel_rfl
theorem jM (a : Value) : argsOk "set_iterator.__iter__" ⟨[a], []⟩ := by unfold argsOk; kernel_rfl
theorem kO : entryFor table "set.__iter__" = some Builtin.«frozenset.__iter__» :=
 entryFor_alias (id' := "frozenset.__iter__") (by kernel_rfl) rfl (by decide +kernel) (by kernel_rfl)
theorem i8 : entryFor table "set_iterator.__iter__" = some Builtin.«dict_keyiterator.__iter__» :=
 entryFor_alias (id' := "dict_keyiterator.__iter__") (by kernel_rfl) rfl (by decide +kernel) (by kernel_rfl)
theorem gX {α : Type} {x : α} : ∀ {l : List α} {i : Nat}, l[i]? = some x → (x :: l.eraseIdx i).Perm l
 | [], i, h => by simp at h
 | a :: l, 0, h => by simp at h; subst h; exact List.Perm.refl _
 | a :: l, i + 1, h => by
  rw [List.eraseIdx_cons_succ]
  exact (List.Perm.swap _ _ _).trans ((gX (by simpa using h)).cons a)
theorem qR {α : Type} (next : Nat → Nat) : ∀ (n k : Nat) (left : List α) (out : Array α), left.length = n → (pickOrder.go next n k left out).toList.Perm (out.toList ++ left)
 | 0, k, left, out, h => by
  have : left = [] := List.length_eq_zero_iff.mp h
  subst this
  simp [pickOrder.go]
 | n + 1, k, left, out, h => by
  have hlt : next k % left.length < left.length := Nat.mod_lt _ (by exact oj fun hg => lN [(left.length), n] 0x48121461 rfl (Nat.le_of_eq (Eq.symm h)) hg)
  unfold pickOrder.go
  rw [List.getElem?_eq_getElem hlt]
  dsimp only
  refine (qR next n (k + 1) _ _ (by rw [List.length_eraseIdx_of_lt hlt]; exact Nat.le_antisymm (dK fun hg => lN [(left.length), n, (left.length - 1)] 0x314612186128c81 rfl (Nat.le_of_eq h) (dj (dK fun hg => lN [(left.length), n] 0x210906121461 rfl (Nat.le_of_eq (Eq.symm h)) hg)) hg) (dK fun hg => lN [(left.length), n, (left.length - 1)] 0x2986130c8121461 rfl (Nat.le_of_eq (Eq.symm h)) (dE (left.length) (1)) hg))).trans ?_
  rw [Array.toList_push, List.append_assoc]
  exact List.Perm.append_left _ (gX (List.getElem?_eq_getElem hlt))
theorem rQ {α : Type} (next : Nat → Nat) (xs : Array α) : (pickOrder next xs).toList.Perm xs.toList := by
 have := qR next xs.size 0 xs.toList #[] (by simp)
 simpa [pickOrder] using this
section
variable {prog : Program} {w : World} {A : Around} {E : Value → Shared → Prop}
theorem nP {s : Shared} {src : Source} {n : Nat} {Q : Nat → Shared → Prop} (hn : n ≠ 0) (h : ∀ i d, i < n → Q i { s with drawn := d }) : wpAny (model prog w) A (choose src n) Q E s :=
 fun _ _ _ => ⟨hn, h _ _ (Nat.mod_lt _ (Nat.pos_of_ne_zero hn))⟩
theorem fh {α : Type} : ∀ (n : Nat) (xs : List α) {s : Shared} {Q : List α → Shared → Prop}, xs.length = n → (∀ ys d, ys.Perm xs → Q ys { s with drawn := d }) → wpAny (model prog w) A (drawOrder n xs) Q E s
 | 0, xs, s, Q, hl, h => by
  have : xs = [] := List.length_eq_zero_iff.mp hl
  subst this
  exact wpAny_pure (h [] s.drawn (List.Perm.refl _))
 | n + 1, xs, s, Q, hl, h => by
  match xs, hl with
  | x :: xs, hl =>
   show wpAny _ A (choose .order (x :: xs).length >>= _) _ _ s
   refine wpAny_bind (nP (by simp) fun i d hi => ?_)
   rw [List.getElem?_eq_getElem hi]
   dsimp only
   refine wpAny_bind (fh n ((x :: xs).eraseIdx i) (by rw [List.length_eraseIdx_of_lt hi]; simp at hl ⊢; exact hl) fun ys d' hp => wpAny_pure ?_)
   exact h _ d' ((hp.cons _).trans (gX (List.getElem?_eq_getElem hi)))
end
end Mine
end
noncomputable section
namespace Mine
open PySem PyProof.Rows
inductive SetM (w : World) (a : Addr) (es : Array (Int × Value)) (ep : Nat) (t : SetTable) (i : Nat) (h : Heap) : List Value → Option Addr → Value → Prop
 | txt (_ : w.params.followText "set-order" = true) (f : Int) : SetM w a es ep t i h ((pickOrder (w.params.setOrder a ep) es).toList.map (·.2)) none (.int f 0)
 | drw (_ : w.params.followText "set-order" = false) (b : Addr) (order : List Nat) (o : Obj) (n : Nat) (_ : h.get? b = some o) (_ : o.data = .seq (order.map fun (j : Nat) => rawInt j).toArray n) (_ : ∀ j ∈ order, j < es.size) : SetM w a es ep t i h (order.filterMap fun j => es[j]?.map (·.2)) (some b) (.ref b)
 | one (_ : w.params.followText "set-order" = false) (_ : t.led = true) (_ : es.size ≤ 1) (slot : Nat) (_ : SetTable.below t.place slot = i) : SetM w a es ep t i h (es.toList.map (·.2)) none (.int slot 0)
inductive SetSt (w : World) (I a : Addr) (es : Array (Int × Value)) (ep : Nat) (t : SetTable) (vs : List Value) (tup : Option Addr) (i : Nat) (h : Heap) : Prop
 | mk (oa : Obj) (_ : h.get? a = some oa) (_ : oa.cls = .type "set") (_ : oa.data = .set es ep t) (o : Obj) (first : Value) (_ : h.get? I = some o) (_ : o.cls = .type "set_iterator") (_ : o.data = .fields #[first, .int i 0, .ref a, .int es.size 0, .int ep 0])
   (_ : SetM w a es ep t i h vs tup first)
theorem qs (xs : Array Nat) (h : xs.size ≤ 1) : SetTable.below xs 0 = 0 := by
 unfold SetTable.below
 match hs : xs.size, h with
 | 0, _ => rfl
 | 1, _ =>
  unfold SetTable.below.go
  simp
  unfold SetTable.below.go
  rfl
theorem sC (xs : Array Nat) (j : Nat) (hs : xs.size = 1) (h : xs[0]? = some j) : SetTable.below xs (j + 1) = 1 := by
 unfold SetTable.below
 rw [hs]
 unfold SetTable.below.go
 have : xs.getD 0 (j + 1) = j := by rw [Array.getD_eq_getD_getElem?, h]; rfl
 simp [this]
 unfold SetTable.below.go
 rfl
end Mine
end
noncomputable section
namespace Mine
open PySem PyProof.Rows
section
variable {prog : Program} {w : World} {A : Around} {E : Value → Shared → Prop}
theorem i9 {s : Shared} {Q : Bool → Shared → Prop} (h : Q (w.params.followText "set-order") s) : wpAny (model prog w) A setsByText Q E s := by
 unfold setsByText
 exact wpAny_bind (wpAny_askSetting (wpAny_pure h))
theorem eT {s : Shared} {a : Addr} {o : Obj} {es : Array (Int × Value)} {ep : Nat} {t : SetTable} {slot i : Nat} {Q : Option (Value × Nat) → Shared → Prop} (ho : s.heap.get? a = some o) (hd : o.data = .set es ep t) (hf : t.fits es.size = true)
  (hm : w.params.followText "set-order" = true ∨ (t.led = true ∧ es.size ≤ 1))
  (h1 : w.params.followText "set-order" = true → Q (((pickOrder (w.params.setOrder a ep) es)[i]?).map fun e => (e.2, slot)) s)
  (h2 : w.params.followText "set-order" = false → Q (match es[SetTable.below t.place slot]?, t.place[SetTable.below t.place slot]? with | some (_, x), some j => some (x, j + 1) | _, _ => none) s) :
  wpAny (model prog w) A (setNext a slot i ep) Q E s := by
 unfold setNext
 refine wpAny_bind (wpAny_setState_of ho hd hf ?_)
 dsimp only
 refine wpAny_bind (i9 ?_)
 cases hb : w.params.followText "set-order" with
 | true =>
  simp only [if_true]
  rw [if_neg (by simp)]
  refine wpAny_bind ?_
  unfold setWalk
  refine wpAny_bind (wpAny_setState_of ho hd hf ?_)
  dsimp only
  refine wpAny_bind (i9 ?_)
  rw [hb]
  simp only [if_true]
  refine wpAny_bind (wpAny_askSetting (wpAny_pure (wpAny_pure ?_)))
  exact h1 hb
 | false =>
  have hm' := hm.resolve_left (by rw [hb]; simp)
  simp only [Bool.false_eq_true, if_false]
  refine wpAny_ite_split (fun hd => ?_) fun _ => ?_
  ·exfalso
   have hd' : (!t.plain && decide (es.size > 1)) = true := hd
   rw [Bool.and_eq_true, decide_eq_true_eq] at hd'
   exact False.elim (lN [(es.size)] 0x102108c2108481 rfl (hm').2 (hd').2)
  refine wpAny_bind (m := _) (Q := _) ?_
  refine wpAny_ite_split (fun hl => ?_) fun _ => ?_
  ·exfalso
   rw [hm'.1] at hl
   simp at hl
  refine wpAny_pure (wpAny_pure ?_)
  exact h2 hb
theorem pK {s : Shared} {I a : Addr} {es : Array (Int × Value)} {ep : Nat} {t : SetTable} {vs : List Value} {tup : Option Addr} {i : Nat} {v : Value} {Q : Option Value → Shared → Prop} (hIa : a ≠ I) (hIt : ∀ b, tup = some b → b ≠ I) (hf : t.fits es.size = true) (st : SetSt w I a es ep t vs tup i s.heap) (hv : vs[i]? = some v)
  (hQ : ∀ h', Heap.SameBut I s.heap h' → SetSt w I a es ep t vs tup (i + 1) h' → Q (some v) { s with heap := h' }) : wpAny (model prog w) A (pyNext (.ref I)) Q E s := by
 obtain ⟨oa, hoa, hca, hda, oI, first, hoI, hcI, hdI, hm⟩ := st
 have hT : s.TypeIs (.ref I) "set_iterator" := ⟨oI, hoI, hcI⟩
 have hc1 : ((i : Int) + 1) = ((i + 1 : Nat) : Int) := by push_cast; rfl
 unfold pyNext
 refine wpAny_bind (wpAny_attempt (wpAny_callSpecial?_slot (name := Str.ofString "__next__") hT bE (wpAny_call_entry bE hT eA ?_ (fj _))))
 refine wpAny_bind (wpAny_pure ?_)
 refine wpAny_bind (wpAny_fieldsOf hoI hdI ?_)
 dsimp only
 refine wpAny_bind (wpAny_bind (wpAny_setState_of hoa hda hf (wpAny_pure ?_)))
 dsimp only
 rw [if_neg (by simp)]
 have two : ∀ (n : Nat),
   (∀ h' o', Heap.SameBut I s.heap h' → h'.get? I = some o' → o'.cls = .type "set_iterator" → o'.data = .fields #[.int n 0, .int (i + 1 : Nat) 0, .ref a, .int es.size 0, .int ep 0] → Q (some v) { s with heap := h' }) →
   wpAny (model prog w) A.in1 (do
     setField (Value.ref I) 0 (rawInt n)
     setField (Value.ref I) 1 (rawInt ((i : Int) + 1))
     ret v) (fun fin s' => ∃ v, fin = Fin.done (Flow.ret v) ∧ wpAny (model prog w) A (pure (some v)) Q E s')
    (fun e s' => wpAny (model prog w) A (do
     let b ← isInstance e (Value.type "StopIteration")
     if b = true then pure none else throw e) Q E s') s := by
  intro n hP
  refine wpAny_bind (wpAny_setField hoI hdI (by simp) ?_)
  have d1 := Obj.data_mapFields hdI (·.setIfInBounds 0 (rawInt (n : Int)))
  have g1 := Heap.get?_update_self (Obj.mapFields (·.setIfInBounds 0 (rawInt (n : Int)))) hoI (Obj.isFreed_of_fields d1)
  refine wpAny_bind (wpAny_setField (s := { s with heap := _ }) g1 d1 (by simp) ?_)
  have d2 := Obj.data_mapFields d1 (·.setIfInBounds 1 (rawInt ((i : Int) + 1)))
  have g2 := Heap.get?_update_self (Obj.mapFields (·.setIfInBounds 1 (rawInt ((i : Int) + 1)))) g1 (Obj.isFreed_of_fields d2)
  refine wpAny_pure ⟨_, rfl, wpAny_pure (hP _ _ ((Heap.SameBut.update ..).trans (Heap.SameBut.update ..)) g2 ?_ ?_)⟩
  ·rw [Obj.cls_mapFields, Obj.cls_mapFields]; exact hcI
  ·rw [d2, hc1]; rfl
 have keepA : ∀ h', Heap.SameBut I s.heap h' → h'.get? a = some oa := fun h' hs => hs.extBut a oa hIa hoa
 rcases hm with ⟨hb, f⟩ | ⟨hb, b, order, ob, n, hob, hdb, hlt⟩ | ⟨hb, hled, hsz, slot, hsl⟩
 ·dsimp only
  refine wpAny_bind (eT hoa hda hf (.inl hb) (fun _ => ?_) fun z => by rw [hb] at z; cases z)
  have hi : (pickOrder (w.params.setOrder a ep) es)[i]? = some ((pickOrder (w.params.setOrder a ep) es)[i]?.getD (0, .none)) := by
   rw [List.getElem?_map, Array.getElem?_toList] at hv
   obtain ⟨e, he, _⟩ := Option.map_eq_some_iff.mp hv
   rw [he]; rfl
  have hve : ((pickOrder (w.params.setOrder a ep) es)[i]?.getD (0, .none)).2 = v := by
   rw [List.getElem?_map, Array.getElem?_toList, hi] at hv
   exact Option.some.inj hv
  simp only [Int.toNat_natCast]
  rw [hi]
  simp only [Option.map_some]
  rw [hve]
  refine two _ fun h' o' hs g c d => hQ h' hs ⟨oa, keepA h' hs, hca, hda, o', _, g, c, d, .txt hb _⟩
 ·dsimp only
  refine wpAny_bind (wpAny_seqItems hob hdb ?_)
  dsimp only
  have hil : i < order.length := by
   have h1 := (List.getElem?_eq_some_iff.mp hv).1
   exact Nat.lt_of_lt_of_le h1 (List.length_filterMap_le (fun j => es[j]?.map (·.2)) order)
  have hall : (order.filterMap fun j => es[j]?.map (·.2)) = order.map fun j => (es[j]?.map (·.2)).getD .none := by
   clear hv hil hob hdb hdI hQ two
   induction order with
   | nil => rfl
   | cons j r ih =>
    have hj := hlt j (List.mem_cons_self ..)
    rw [List.filterMap_cons, List.map_cons, ih fun k hk => hlt k (List.mem_cons_of_mem _ hk), getElem?_pos es j hj]
    rfl
  have hj : order[i] < es.size := hlt _ (List.getElem_mem hil)
  have hve : es[order[i]].2 = v := by
   rw [hall, List.getElem?_map, List.getElem?_eq_getElem hil, Option.map_some, getElem?_pos es _ hj] at hv
   exact Option.some.inj hv
  have hpl : (((order.map fun (j : Nat) => rawInt j).toArray)[((i : Nat) : Int).toNat]?) = some (.int order[i] 0) := by
   simp [hil, rawInt]
  rw [hpl]
  dsimp only
  refine wpAny_bind ?_
  unfold setNextDrawn
  refine wpAny_bind (wpAny_setState_of hoa hda hf ?_)
  dsimp only
  rw [if_neg (by simp), Int.toNat_natCast, getElem?_pos es _ hj]
  dsimp only
  refine wpAny_pure ?_
  refine wpAny_bind (wpAny_setField hoI hdI (by simp) ?_)
  have d1 := Obj.data_mapFields hdI (·.setIfInBounds 1 (rawInt ((i : Int) + 1)))
  have g1 := Heap.get?_update_self (Obj.mapFields (·.setIfInBounds 1 (rawInt ((i : Int) + 1)))) hoI (Obj.isFreed_of_fields d1)
  rw [hve]
  refine wpAny_pure ⟨_, rfl, wpAny_pure (hQ _ (Heap.SameBut.update ..) ⟨oa, keepA _ (Heap.SameBut.update ..), hca, hda, _, _, g1, ?_, ?_, .drw hb b order ob n ((Heap.SameBut.update s.heap I _).extBut b ob (hIt b rfl) hob) hdb hlt⟩)⟩
  ·rw [Obj.cls_mapFields]; exact hcI
  ·rw [d1, hc1]; rfl
 ·dsimp only
  refine wpAny_bind (eT hoa hda hf (.inr ⟨hled, hsz⟩) (fun z => by rw [hb] at z; cases z) fun _ => ?_)
  simp only [Int.toNat_natCast, hsl]
  have hi0 : i < es.size := by
   have h1 := (List.getElem?_eq_some_iff.mp hv).1
   simpa using h1
  have hi1 : i = 0 := by exact Nat.le_antisymm (dK fun hg => lN [(es.size), i] 0xa008c2428c2108481 rfl hsz hi0 hg) (dK fun hg => lN [(SetTable.below t.place slot), i] 0x4a309481 rfl (Nat.le_of_eq hsl) hg)
  subst hi1
  have hps : t.place.size = es.size := by
   simp only [SetTable.fits, Bool.and_eq_true, beq_iff_eq] at hf
   exact hf.1
  rw [getElem?_pos es 0 hi0, getElem?_pos t.place 0 (by exact Nat.le_trans hi0 (Nat.le_of_eq hps.symm))]
  have hve : es[0].2 = v := by
   rw [List.getElem?_map, Array.getElem?_toList, getElem?_pos es 0 hi0] at hv
   exact Option.some.inj hv
  dsimp only
  rw [hve]
  refine two (t.place[0] + 1) fun h' o' hs g c d => hQ h' hs ⟨oa, keepA h' hs, hca, hda, o', _, g, c, d, .one hb hled hsz _ (sC _ _ (by exact Nat.le_antisymm (dK fun hg => lN [(es.size), (t.place.size)] 0xa1084612142108481 rfl hsz (Nat.le_of_eq hps) hg) (dK fun hg => lN [(es.size), (t.place.size)] 0x21094612902400461 rfl hi0 (Nat.le_of_eq (Eq.symm hps)) hg)) (getElem?_pos t.place 0 (by exact Nat.le_trans hi0 (Nat.le_of_eq hps.symm))))⟩
end
end Mine
end
noncomputable section
set_option tactic.hygienic false
namespace Mine
open PySem PySem.W PyProof.Rows
section
variable {prog : Program} {w : World} {A : Around} {E : Value → Shared → Prop}
theorem iR {s : Shared} {Q : Option Value → Shared → Prop} {P : Fin → Shared → Prop} (hh : A.handled = none) (h : ∀ h', (∀ b o, s.heap.get? b = some o → h'.get? b = some o) → Q none { s with heap := h' }) :
  wpAny (model prog w) A.in1 (do
    let e ← newExc (Value.type "StopIteration") []
    raiseNew e) P (fun e s' => wpAny (model prog w) A (do
     let b ← isInstance e (Value.type "StopIteration")
     if b = true then pure none else throw e) Q E s') s := by
 refine wpAny_bind ?_
 simp only [newExc, newTuple]
 refine wpAny_bind (wpAny_newObj_type ?_ (by size_fits))
 refine wpAny_bind (m := firstArgMember _ _) (wpAny_of_eq (a := Value.none) (by first | rfl | (simp only [firstArgMember]; rfl)) ?_)
 refine wpAny_newObj_type ?_ (by size_fits)
 simp only [raiseNew]
 refine wpAny_bind (wpAny_handled ?_)
 rw [show A.in1.handled = none from hh]
 refine wpAny_bind (wpAny_pure (wpAny_throw ?_))
 refine wpAny_bind (wpAny_isInstance (T := "StopIteration") (b := true) ⟨_, Heap.get?_push_size _ rfl, rfl⟩ isSubtype_stop ?_)
 exact wpAny_pure (h _ fun b o e => Heap.get?_push_of_some _ (Heap.get?_push_of_some _ e))
theorem rF {s : Shared} {I a : Addr} {es : Array (Int × Value)} {ep : Nat} {t : SetTable} {vs : List Value} {tup : Option Addr} {Q : Option Value → Shared → Prop} (hh : A.handled = none) (hf : t.fits es.size = true) (st : SetSt w I a es ep t vs tup vs.length s.heap)
  (hQ : ∀ h', Heap.ExtBut I s.heap h' → Q none { s with heap := h' }) : wpAny (model prog w) A (pyNext (.ref I)) Q E s := by
 obtain ⟨oa, hoa, hca, hda, oI, first, hoI, hcI, hdI, hm⟩ := st
 have hT : s.TypeIs (.ref I) "set_iterator" := ⟨oI, hoI, hcI⟩
 unfold pyNext
 refine wpAny_bind (wpAny_attempt (wpAny_callSpecial?_slot (name := Str.ofString "__next__") hT bE (wpAny_call_entry bE hT eA ?_ (fj _))))
 refine wpAny_bind (wpAny_pure ?_)
 refine wpAny_bind (wpAny_fieldsOf hoI hdI ?_)
 dsimp only
 refine wpAny_bind (wpAny_bind (wpAny_setState_of hoa hda hf (wpAny_pure ?_)))
 dsimp only
 rw [if_neg (by simp)]
 rcases hm with ⟨hb, f⟩ | ⟨hb, b, order, ob, n, hob, hdb, hlt⟩ | ⟨hb, hled, hsz, slot, hsl⟩
 ·dsimp only
  refine wpAny_bind (eT hoa hda hf (.inl hb) (fun _ => ?_) fun z => by rw [hb] at z; cases z)
  rw [Int.toNat_natCast, List.length_map, Array.length_toList, getElem?_neg (pickOrder (w.params.setOrder a ep) es) _ (Nat.lt_irrefl _)]
  dsimp only [Option.map_none]
  refine wpAny_bind (wpAny_setField hoI hdI (by simp) ?_)
  exact iR hh fun h' hk => hQ h' fun b o hb e => hk b o ((Heap.SameBut.update s.heap I _).extBut b o hb e)
 ·dsimp only
  refine wpAny_bind (wpAny_seqItems hob hdb ?_)
  dsimp only
  have hvl : (order.filterMap fun j => es[j]?.map (·.2)).length = order.length := by
   clear hob hdb hdI hQ
   induction order with
   | nil => rfl
   | cons j r ih =>
    have hj := hlt j (List.mem_cons_self ..)
    rw [List.filterMap_cons, getElem?_pos es j hj]
    simp [ih fun k hk => hlt k (List.mem_cons_of_mem _ hk)]
  have hpl : (((order.map fun (j : Nat) => rawInt j).toArray)[(((order.filterMap fun j => es[j]?.map (·.2)).length : Nat) : Int).toNat]?) = none := by
   simp [hvl]
  rw [hpl]
  dsimp only
  refine wpAny_bind (wpAny_setField hoI hdI (by simp) ?_)
  have d1 := Obj.data_mapFields hdI (·.setIfInBounds 0 (rawInt 0))
  have g1 := Heap.get?_update_self (Obj.mapFields (·.setIfInBounds 0 (rawInt 0))) hoI (Obj.isFreed_of_fields d1)
  refine wpAny_bind (wpAny_setField (s := { s with heap := _ }) g1 d1 (by simp) ?_)
  exact iR hh fun h' hk => hQ h' fun b o hb e => hk b o (((Heap.SameBut.update s.heap I _).trans (Heap.SameBut.update _ I _)).extBut b o hb e)
 ·dsimp only
  refine wpAny_bind (eT hoa hda hf (.inr ⟨hled, hsz⟩) (fun z => by rw [hb] at z; cases z) fun _ => ?_)
  rw [Int.toNat_natCast, hsl, List.length_map, Array.length_toList, getElem?_neg es _ (Nat.lt_irrefl _)]
  dsimp only
  refine wpAny_bind (wpAny_setField hoI hdI (by simp) ?_)
  exact iR hh fun h' hk => hQ h' fun b o hb e => hk b o ((Heap.SameBut.update s.heap I _).extBut b o hb e)
theorem SetSt.at {I a : Addr} {es : Array (Int × Value)} {ep : Nat} {t : SetTable} {vs : List Value} {tup : Option Addr} {i : Nat} {h h' : Heap} (st : SetSt w I a es ep t vs tup i h)
  (k : ∀ b o, b = I ∨ b = a ∨ tup = some b → h.get? b = some o → h'.get? b = some o) : SetSt w I a es ep t vs tup i h' := by
 obtain ⟨oa, hoa, hca, hda, oI, first, hoI, hcI, hdI, hm⟩ := st
 refine ⟨oa, k a oa (.inr (.inl rfl)) hoa, hca, hda, oI, first, k I oI (.inl rfl) hoI, hcI, hdI, ?_⟩
 rcases hm with ⟨hb, f⟩ | ⟨hb, b, order, ob, n, hob, hdb, hlt⟩ | ⟨hb, hled, hsz, slot, hsl⟩
 ·exact .txt hb f
 ·exact .drw hb b order ob n (k b ob (.inr (.inr rfl)) hob) hdb hlt
 ·exact .one hb hled hsz slot hsl
noncomputable def vt : Option Addr → List Addr
 | none => []
 | some b => [b]
theorem rr {I a : Addr} {es : Array (Int × Value)} {ep : Nat} {t : SetTable} {vs : List Value} {tup : Option Addr} (hh : A.handled = none) (hIa : a ≠ I) (hIt : ∀ b, tup = some b → b ≠ I) (hf : t.fits es.size = true) :
  Walks prog w A I (I :: a :: vt tup) [I] vs.length (fun i v => vs[i]? = some v) (fun i h => SetSt w I a es ep t vs tup i h) where
 sub := fun b hb => by rw [List.mem_singleton.mp hb]; exact List.mem_cons_self ..
 frame := fun i h h' st hk => st.at fun b o hb e => hk b (by
  rcases hb with rfl | rfl | hb
  ·exact List.mem_cons_self ..
  ·exact List.mem_cons_of_mem _ (List.mem_cons_self ..)
  ·subst hb; simp [vt]) o e
 item := fun i s Q E hi st hQ => pK hIa hIt hf st (List.getElem?_eq_getElem hi) fun h' hs st' => hQ _ h' s.toks (List.getElem?_eq_getElem hi) st' fun b o hb e => hs.extBut b o (fun z => hb (by simp [z])) e
 done := fun s Q E st hQ => rF hh hf st fun h' hx => hQ h' s.toks fun b o hb e => hx b o (fun z => hb (by simp [z])) e
 self := fun i s Q E st q => by
  obtain ⟨_, _, _, _, oI, first, hoI, hcI, hdI, hm⟩ := st
  have hT : s.TypeIs (.ref I) "set_iterator" := ⟨oI, hoI, hcI⟩
  refine wpAny_pyIter_slot hT fi (wpAny_call_entry fi hT i8 ?_ (jM _))
  show wpAny _ _ (ret (.ref I)) _ _ s
  exact wpAny_pure ⟨_, rfl, "set_iterator", _, hT, bE.lookup, q⟩
theorem pR {s : Shared} {a : Addr} {ks : List Str} {Q : Value → Shared → Prop} (hS : SetX prog w s.heap a (!w.params.followText "set-order") ks)
  (h : ∀ I es ep t vs tup h' d, t.fits es.size = true → SetSt w I a es ep t vs tup 0 h' → a ≠ I → (∀ b, tup = some b → b ≠ I) → s.heap.get? I = none → (∀ b, tup = some b → s.heap.get? b = none) → vs.length < scanBound →
   (∃ ks', StrsAre vs ks' ∧ ks'.Perm ks) → (∀ b o, s.heap.get? b = some o → h'.get? b = some o) → Q (.ref I) { s with heap := h', drawn := d }) : wpAny (model prog w) A (pyIter (.ref a)) Q E s := by
 obtain ⟨o, es, ep, t, ho, hex, hd, hel, hb, hf, hled, hpl, hks, hnd⟩ := hS
 have hT : s.TypeIs (.ref a) "set" := ⟨o, ho, hex.1⟩
 have hslen : es.size ≤ sizeLine := fits_of_scanBound hb
 have hlt : a < s.heap.objs.size := Heap.lt_size ho
 refine wpAny_pyIter_slot hT PySem.F.slot_set_iter (wpAny_call_entry PySem.F.slot_set_iter hT kO ?_ (PySem.F.args_set_iter_1 _))
 unfold Builtin.«frozenset.__iter__» Builtin.Frozenset.slot0 slotArgs
 simp only [List.isEmpty_nil, Bool.not_true, Bool.false_eq_true, ↓reduceIte, bind_assoc, List.length_nil, bne_self_eq_false]
 unfold Builtin.Frozenset.addrOf Builtin.Frozenset.sizeOf
 refine wpAny_bind (wpAny_pure ?_)
 try dsimp only
 refine wpAny_bind (wpAny_pure ?_)
 refine wpAny_bind (wpAny_bind (wpAny_setEntries_of ho hd hf (wpAny_pure ?_)))
 refine wpAny_bind ?_
 unfold setDrawn
 refine wpAny_bind (wpAny_setState_of ho hd hf ?_)
 dsimp only
 refine wpAny_bind (i9 (wpAny_pure ?_))
 have mk : ∀ (first : Value) (h₁ : Heap) (d : Drawn) (vs : List Value) (tup : Option Addr), (∀ b o, s.heap.get? b = some o → h₁.get? b = some o) → (∃ ks', StrsAre vs ks' ∧ ks'.Perm ks) → (∀ b, tup = some b → b ≠ h₁.objs.size) → (∀ b, tup = some b → s.heap.get? b = none) → s.heap.objs.size ≤ h₁.objs.size →
   (∀ h' : Heap, (∀ b o, h₁.get? b = some o → h'.get? b = some o) →
    SetM w a es ep t 0 h' vs tup first) →
   wpAny (model prog w) A.in1 (do
    let e ← setEpoch a
    let f ← newFields "set_iterator" [first, rawInt 0, .ref a, rawInt es.size, rawInt e]
    ret f) (fun fin s' => ∃ r, fin = .done (.ret r) ∧ ∃ T' r', s'.TypeIs r T' ∧ typeLookup (.type T') "__next__" = pure (some r') ∧ Q r s') E { s with heap := h₁, drawn := d } := by
  intro first h₁ d vs tup hk hvs hne hnew hsz hmode
  refine wpAny_bind (wpAny_setEpoch_of (s := { s with heap := h₁, drawn := d }) (hk a o ho) hd hf ?_)
  unfold newFields
  refine wpAny_bind (wpAny_newObj_type ?_ (by show _ ≤ _; simp [sizeLine_eq]))
  refine wpAny_pure ⟨_, rfl, "set_iterator", _, ⟨_, Heap.get?_push_size _ rfl, rfl⟩, bE.lookup, ?_⟩
  have hvl : vs.length < scanBound := by
   obtain ⟨ks', h1, h2⟩ := hvs
   have e1 := congrArg List.length h1.strs
   have e2 := congrArg List.length hks.strs
   have e3 := h2.length_eq
   simp at e1 e2
   exact e1.trans (e3.trans e2.symm) ▸ hb
  refine h h₁.objs.size es ep t vs tup _ d hf ⟨o, Heap.get?_push_of_some _ (hk a o ho), hex.1, hd, _, first, Heap.get?_push_size _ rfl, rfl, by simp [rawInt], hmode _ fun b o e => Heap.get?_push_of_some _ e⟩ (Nat.ne_of_lt (Nat.lt_of_lt_of_le hlt hsz)) hne ?_ hnew hvl hvs fun b o e => Heap.get?_push_of_some _ (hk b o e)
  cases e : s.heap.get? h₁.objs.size with
  | none => rfl
  | some o' => exact absurd (Heap.lt_size (hk _ _ e)) (Nat.lt_irrefl _)
 have hself : ∃ ks', StrsAre (es.toList.map (·.2)) ks' ∧ ks'.Perm ks := ⟨ks, hks, List.Perm.refl _⟩
 cases hbt : w.params.followText "set-order" with
 | true =>
  simp only [Bool.not_true, Bool.false_and, Bool.false_eq_true, if_false]
  refine wpAny_bind (wpAny_pure ?_)
  refine mk (rawInt 0) s.heap s.drawn ((pickOrder (w.params.setOrder a ep) es).toList.map (·.2)) none (fun _ _ e => e) ?_ (fun b e => by cases e) (fun b e => by cases e) (Nat.le_refl _) fun h' _ => .txt hbt 0
  exact gb hks ((rQ _ es).map _)
 | false =>
  simp only [Bool.not_false, Bool.true_and]
  by_cases hs1 : es.size > 1
  ·have hp0 : t.plain = false := hpl (by exact fun hg => lN [(es.size)] 0x12048108461 rfl hs1 (Nat.le_of_eq hg))
   refine wpAny_ite_split (fun _ => ?_) fun hn => absurd (show (!t.plain && decide (es.size > 1)) = true by rw [hp0]; simpa using hs1) hn
   refine wpAny_bind (fh es.size (List.range es.size) (by simp) fun order d hp => ?_)
   have hol : order.length = es.size := by rw [hp.length_eq]; simp
   have horl : ∀ j ∈ order, j < es.size := fun j hj => by simpa using hp.mem_iff.mp hj
   refine wpAny_bind (wpAny_newTuple ?_ (by rw [List.length_map, hol]; exact hslen))
   refine mk (.ref s.heap.objs.size) _ d (order.filterMap fun j => es[j]?.map (·.2)) (some s.heap.objs.size) (fun b o e => Heap.get?_push_of_some _ e) ?_ (fun b e => by cases e; rw [Heap.size_push]; exact Nat.ne_of_lt (Nat.lt_succ_self _))
    (fun b e => by cases e; cases e2 : s.heap.get? s.heap.objs.size with | none => rfl | some o' => exact absurd (Heap.lt_size e2) (Nat.lt_irrefl _)) (by rw [Heap.size_push]; exact Nat.le_succ _)
    fun h' hk' => .drw hbt _ order _ _ (hk' _ _ (Heap.get?_push_size _ rfl)) rfl horl
   refine gb hks ?_
   have h1 := (hp.filterMap fun j => es[j]?.map (·.2))
   have h2 : (List.range es.size).filterMap (fun j => es[j]?.map (·.2)) = es.toList.map (·.2) := by
    have := congrArg (List.map (·.2)) (filterMap_getElem?_range es)
    rw [List.map_filterMap] at this
    exact this
   rw [h2] at h1
   exact h1
  ·refine wpAny_ite_split (fun hy => ?_) fun _ => wpAny_bind (wpAny_pure ?_)
   ·exfalso
    have hy' : (!t.plain && decide (es.size > 1)) = true := hy
    rw [Bool.and_eq_true, decide_eq_true_eq] at hy'
    exact hs1 hy'.2
   have hps : t.place.size = es.size := by
    simp only [SetTable.fits, Bool.and_eq_true, beq_iff_eq] at hf
    exact hf.1
   refine mk (rawInt 0) s.heap s.drawn (es.toList.map (·.2)) none (fun _ _ e => e) hself (fun b e => by cases e) (fun b e => by cases e) (Nat.le_refl _) fun h' _ => .one hbt (by rw [hled, hbt]; rfl) (Nat.le_of_not_lt hs1) 0 (qs _ (hps ▸ Nat.le_of_not_lt hs1))
end
end Mine
end
noncomputable section
set_option tactic.hygienic false
namespace Mine
open PySem PySem.W PyProof.Rows
section
variable {prog : Program} {w : World} {E : Value → Shared → Prop}
theorem ug {A : Around} {s : Shared} {r : Addr} {Q : Bool → Shared → Prop} (hT : s.TypeIs (.ref r) "set") (h : Q false s) : wpAny (model prog w) A (Builtin.List.listLengthHint (.ref r)) Q E s := by
 unfold Builtin.List.listLengthHint
 refine wpAny_bind (wpAny_specialOf hT PySem.F.slot_set_len.lookup ?_)
 generalize hid : ("set.__len__" : String) = id0
 wp_delta
 rw [show splitId id0 = some ("set", "__len__") from by subst hid; decide +kernel]
 subst hid
 refine wpAny_bind (wpAny_isInstance (T := "set") (b := true) hT (by rw [isSubtype_type]; kernel_rfl) ?_)
 refine wpAny_ite_split (fun hab => absurd hab (by decide)) (fun _ => ?_)
 refine wpAny_ite_split (fun _ => ?_) (fun hab => absurd (by decide +kernel) hab)
 refine wpAny_bind (wpAny_typeOf hT ?_)
 exact wpAny_pure h
theorem oN {A : Around} {s : Shared} {a : Addr} {ks : List Str} {R : List Value → Shared → Prop} (hh : A.handled = none) (hS : SetX prog w s.heap a (!w.params.followText "set-order") ks)
  (h : ∀ (h' : Heap) (tk : Nat) (d : Drawn) (vs : List Value) (ks' : List Str), (∀ b o, s.heap.get? b = some o → h'.get? b = some o) → StrsAre vs ks' → ks'.Perm ks → R vs { s with heap := h', toks := tk, drawn := d }) :
  wpAny (model prog w) A (collect (.ref a)) R E s := by
 have hT : s.TypeIs (.ref a) "set" := let ⟨o, _, _, _, ho, hex, _, _, _, _, _, _, _, _⟩ := hS; ⟨o, ho, hex.1⟩
 have hlt : a < s.heap.objs.size := let ⟨o, _, _, _, ho, _, _, _, _, _, _, _, _, _⟩ := hS; Heap.lt_size ho
 unfold collect
 refine wpAny_bind (wpAny_runValue (codeAny_builtin entry_proto_collect' ?_))
 rw [Around.under_plainId PySem.F.plain_proto_collect _]
 show wpAny _ A.in1 (newList [] >>= fun l => again (.builtin "list.__iadd__" ⟨[l, .ref a], []⟩)) _ _ s
 refine wpAny_bind (wpAny_newObj_type ?_)
 refine wpAny_pure ⟨plainId_quiet PySem.F.plain_list_iadd _, codeAny_builtin entry_list_iadd' ?_⟩
 rw [Around.under_plainId PySem.F.plain_list_iadd _]
 have hk₀ : ∀ b o, s.heap.get? b = some o → (s.heap.push { cls := .type "list", data := .seq ([] : List Value).toArray }).get? b = some o := fun b o e => Heap.get?_push_of_some _ e
 have hS₁ : (s.heap.push { cls := .type "list", data := .seq ([] : List Value).toArray }).get? s.heap.objs.size = some { cls := .type "list", data := .seq #[] } := Heap.get?_push_size _ rfl
 show wpAny _ A.in1 (Builtin.List.listExtendWith (.ref s.heap.objs.size) (.ref a) (.ref s.heap.objs.size)) _ _ _
 unfold Builtin.List.listExtendWith
 have hX := hS.at (h' := s.heap.push { cls := .type "list", data := .seq ([] : List Value).toArray }) fun o e => hk₀ a o e
 have hTp : Shared.TypeIs { s with heap := s.heap.push { cls := .type "list", data := .seq ([] : List Value).toArray } } (.ref a) "set" := let ⟨o, _, _, _, ho, hex, _, _, _, _, _, _, _, _⟩ := hX; ⟨o, ho, hex.1⟩
 refine wpAny_bind (wpAny_typeOf (T := "set") hTp ?_)
 have h1 : Builtin.List.listSameRef (.ref s.heap.objs.size) (.ref a) = false := by simp [Builtin.List.listSameRef, Nat.ne_of_gt hlt]
 have h2 : (Value.type "set" == Value.type "list") = false := by decide
 have h3 : (Value.type "set" == Value.type "tuple") = false := by decide
 simp only [h1, h2, h3, Bool.or_false, Bool.false_eq_true, if_false]
 refine wpAny_bind (pR hX fun I es ep t vs tup h₂ d hf st hIa hIt hIn htn hvl hvs hk₂ => ?_)
 have hS₂ : h₂.get? s.heap.objs.size = some { cls := .type "list", data := .seq #[] } := hk₂ _ _ hS₁
 have hX₂ := hX.at (h' := h₂) fun o e => hk₂ a o e
 have hT₂ : Shared.TypeIs { s with heap := h₂, drawn := d } (.ref a) "set" := let ⟨o, _, _, _, ho, hex, _, _, _, _, _, _, _, _⟩ := hX₂; ⟨o, ho, hex.1⟩
 have hSI : s.heap.objs.size ≠ I := fun e => by rw [← e, hS₁] at hIn; cases hIn
 have hSf : s.heap.objs.size ∉ (I :: a :: vt tup) := by
  intro hm
  rcases List.mem_cons.mp hm with e | hm
  ·exact hSI e
  rcases List.mem_cons.mp hm with e | hm
  ·exact absurd e (Nat.ne_of_gt hlt)
  ·cases tup with
   | none => cases hm
   | some b =>
    have e := List.mem_singleton.mp hm
    have := htn b rfl
    rw [← e, hS₁] at this; cases this
 have W := rr (prog := prog) (w := w) (A := A.in1) (vs := vs) (ep := ep) (by show A.handled = _; exact hh) hIa hIt hf
 have key : ∀ (R' : Result → Shared → Prop), (∀ (h' : Heap) (tk : Nat) (vs' : List Value) (ks' : List Str) (o' : Obj) (c : Nat), (∀ b o, s.heap.get? b = some o → h'.get? b = some o) → StrsAre vs' ks' → ks'.Perm ks → h'.get? s.heap.objs.size = some o' → o'.data = .seq vs'.toArray c →
    R' (.ok (.ret (.ref s.heap.objs.size))) { s with heap := h', toks := tk, drawn := d }) →
   ∀ (h₃ : Heap) (tk : Nat) (c₁ : Nat), SetSt w I a es ep t vs tup 0 h₃ → (∀ b o, b ≠ s.heap.objs.size → h₂.get? b = some o → h₃.get? b = some o) → h₃.get? s.heap.objs.size = some { cls := .type "list", data := .seq #[] c₁ } →
   codeAny (model prog w) A (.builtin "list.extend.loop" ⟨[.ref s.heap.objs.size, .ref I, .ref s.heap.objs.size], []⟩) R' { s with heap := h₃, toks := tk, drawn := d } := by
  intro R' hR h₃ tk c₁ st₃ hk₃ hS₃
  refine codeAny_extend_loopS W.toS (Nat.le_of_lt (Nat.lt_of_lt_of_le hvl (by rw [sizeLine_eq]; decide))) s.heap.objs.size hSf (.ref s.heap.objs.size) vs.length 0 _ #[] c₁ rfl (Nat.zero_le _) st₃ hS₃ (ItemsOf.nil _) fun s' acc' c' hm hS' hacc => ?_
  have e := Moved.eq_with hm
  rw [e]
  obtain ⟨ks', hks', hpk⟩ := hvs
  have hacc' : acc'.toList = vs := by
   apply List.ext_getElem?
   intro j
   by_cases hj : j < vs.length
   ·have hj' : j < acc'.size := by rw [hacc.1]; exact hj
    have := hacc.2 j acc'[j] (getElem?_pos acc' j hj')
    rw [this, Array.getElem?_toList]
    exact getElem?_pos acc' j hj'
   ·rw [List.getElem?_eq_none (l := acc'.toList) (by rw [Array.length_toList, hacc.1]; exact Nat.le_of_not_lt hj), List.getElem?_eq_none (l := vs) (by exact Nat.le_of_not_lt hj)]
  refine hR s'.heap s'.toks vs ks' _ c' (fun b o e => ?_) hks' hpk hS' (by rw [← hacc', Array.toArray_toList])
  refine hm.heap b o (fun hmem => ?_) (hk₃ b o (Nat.ne_of_lt (Heap.lt_size e)) (hk₂ b o (hk₀ b o e)))
  rcases List.mem_cons.mp hmem with e' | hmem
  ·exact absurd (Heap.lt_size e) (by rw [e']; exact Nat.lt_irrefl _)
  ·have e2 := List.mem_singleton.mp hmem
   have := hk₀ b o e
   rw [e2, hIn] at this; cases this
 have done : ∀ (h' : Heap) (tk : Nat) (vs' : List Value) (ks' : List Str) (o' : Obj) (c : Nat), (∀ b o, s.heap.get? b = some o → h'.get? b = some o) → StrsAre vs' ks' → ks'.Perm ks → h'.get? s.heap.objs.size = some o' → o'.data = .seq vs'.toArray c →
   wpAny (model prog w) A (do
    let o ← load s.heap.objs.size
    match o.data with
     | .seq xs _ => pure xs.toList
     | _ => unsupported "internal:collect") R E { s with heap := h', toks := tk, drawn := d } := by
  intro h' tk vs' ks' o' c hk hs hp ho hd
  refine wpAny_bind (wpAny_load ho ?_)
  rw [hd]
  exact wpAny_pure (by rw [List.toList_toArray]; exact h h' tk d vs' ks' hk hs hp)
 refine wpAny_bind (wpAny_holding (ug hT₂ ?_))
 refine wpAny_ite_split (fun _ => ?_) fun _ => wpAny_pure ⟨plainId_quiet PySem.F.plain_extend_loop _, key _ (fun h' tk vs' ks' o' c hk hs hp ho hd => done h' tk vs' ks' o' c hk hs hp ho hd) h₂ s.toks 0 st (fun _ _ _ e => e) hS₂⟩
 refine wpAny_bind (wpAny_rule ?_)
 refine wpAny_bind ?_
 show wpAny _ _ (updateSeq s.heap.objs.size (·.push .none) >>= fun _ => updateSeq s.heap.objs.size (·.pop)) _ _ _
 refine wpAny_bind (wpAny_updateSeq hS₂ rfl ?_)
 have hS₄ := Heap.get?_update_self (Obj.mapSeq (·.push Value.none)) hS₂ rfl
 refine wpAny_updateSeq (hz := by seq_fits) hS₄ rfl ?_
 have hS₅ := Heap.get?_update_self (Obj.mapSeq (·.pop)) hS₄ rfl
 have hoth : ∀ b o, b ≠ s.heap.objs.size → h₂.get? b = some o → ((h₂.update s.heap.objs.size (Obj.mapSeq (·.push Value.none))).update s.heap.objs.size (Obj.mapSeq (·.pop))).get? b = some o := fun b o hb e =>
  (Heap.get?_update_other _ _ (Ne.symm hb)).trans ((Heap.get?_update_other _ _ (Ne.symm hb)).trans e)
 refine wpAny_pure ⟨plainId_quiet PySem.F.plain_extend_loop _, key _ (fun h' tk vs' ks' o' c hk hs hp ho hd => done h' tk vs' ks' o' c hk hs hp ho hd) _ s.toks _ (st.at fun b o hb e => hoth b o (fun z => hSf ?_) e) hoth hS₅⟩
 rcases hb with hb | hb | hb
 ·rw [← z, hb]; exact List.mem_cons_self ..
 ·rw [← z, hb]; exact List.mem_cons_of_mem _ (List.mem_cons_self ..)
 ·rw [← z, hb]; simp [vt]
end
end Mine
end
noncomputable section
set_option tactic.hygienic false
namespace Mine
open PySem PySem.W PyProof.Rows PySem.Calls
abbrev t4 (a b : Str) : Prop := ¬ cl b < cl a
noncomputable def lF (xs : List Str) : List Str := xs.mergeSort fun a b => !decide (cl b < cl a)
theorem r8 {a b c : Str} (h1 : t4 a b) (h2 : t4 b c) : t4 a c := fun h => by
 rcases (List.not_lt.mp h1 : cl a ≤ cl b) with _
 exact h1 (List.lt_of_le_of_lt (List.not_lt.mp h2) h)
theorem r9 (a b : Str) : t4 a b ∨ t4 b a := by
 by_cases h : cl b < cl a
 ·exact .inr fun h' => List.lt_irrefl _ (List.lt_trans h h')
 ·exact .inl h
theorem t0 {a b : Str} (h1 : t4 a b) (h2 : t4 b a) : a = b := qp (List.le_antisymm (List.not_lt.mp h1) (List.not_lt.mp h2))
theorem em (xs : List Str) : (lF xs).Perm xs := List.mergeSort_perm _ _
theorem gP (xs : List Str) : (lF xs).Pairwise t4 := by
 have := List.pairwise_mergeSort (le := fun a b : Str => !decide (cl b < cl a)) (fun a b c h1 h2 => by simp only [Bool.not_eq_true', decide_eq_false_iff_not] at *; exact r8 h1 h2) (fun a b => by
  rcases r9 a b with h | h
  ·simp [h]
  ·simp [h]) xs
 exact this.imp fun h => by simpa using h
theorem fD : ∀ {a b : List Str}, a.Perm b → a.Pairwise t4 → b.Pairwise t4 → a = b
 | [], _, p, _, _ => p.nil_eq
 | x :: r, b, p, ha, hb => by
  cases b with
  | nil => exact absurd p.length_eq (by simp)
  | cons y t =>
   have hx : x ∈ y :: t := p.mem_iff.mp (.head _)
   have hy : y ∈ x :: r := p.mem_iff.mpr (.head _)
   have e : x = y := by
    rcases List.mem_cons.mp hx with h | h
    ·exact h
    ·rcases List.mem_cons.mp hy with h' | h'
     ·exact h'.symm
     ·exact t0 ((List.pairwise_cons.mp ha).1 y h') ((List.pairwise_cons.mp hb).1 x h)
   subst e
   rw [fD (List.Perm.cons_inv p) (List.pairwise_cons.mp ha).2 (List.pairwise_cons.mp hb).2]
theorem wT {xs ys : List Str} (p : ys.Perm xs) (h : ys.Pairwise t4) : ys = lF xs := fD (p.trans (em xs).symm) h (gP xs)
theorem rB {xs ys : List Str} (p : xs.Perm ys) : lF xs = lF ys := fD ((em xs).trans (p.trans (em ys).symm)) (gP xs) (gP ys)
theorem ji {xs ys : List Str} (hx : xs.Nodup) (hy : ys.Nodup) (h : ∀ z, z ∈ xs ↔ z ∈ ys) : xs.Perm ys := (List.perm_ext_iff_of_nodup hx hy).mpr h
theorem nY {xs ys : List Str} (hx : xs.Nodup) (hy : ys.Nodup) (h : ∀ z, z ∈ xs ↔ z ∈ ys) : lF xs = lF ys := rB (ji hx hy h)
theorem mT {xs : List Str} {z : Str} : z ∈ lF xs ↔ z ∈ xs := (em xs).mem_iff
theorem rA {xs : List Str} (h : xs.Nodup) : (lF xs).Nodup := (em xs).nodup_iff.mpr h
theorem vg (xs : List Str) : (lF xs).length = xs.length := (em xs).length_eq
noncomputable def uniq : List Str → List Str
 | [] => []
 | x :: r => if x ∈ r then uniq r else x :: uniq r
theorem ch {z : Str} : ∀ {xs : List Str}, z ∈ uniq xs ↔ z ∈ xs
 | [] => Iff.rfl
 | x :: r => by
  unfold uniq
  split
  ·rename_i h
   rw [ch, List.mem_cons]
   exact ⟨.inr, fun z => z.elim (fun z => z ▸ h) id⟩
  ·rw [List.mem_cons, List.mem_cons, ch]
theorem cg : ∀ (xs : List Str), (uniq xs).Nodup
 | [] => List.nodup_nil
 | x :: r => by
  unfold uniq
  split
  ·exact cg r
  ·rename_i h
   exact List.nodup_cons.mpr ⟨fun z => h (ch.mp z), cg r⟩
section
variable {C : Cx} {p : Program} {sc : Scope} {k : Nat}
theorem gO {aS : Addr} {h : Heap} : ∀ {ys : List Str} {ws : List Value}, VRels aS h (ys.map .str) ws → StrsAre ws ys
 | [], _, r => by rw [r.inv0]; exact .nil
 | y :: ys, _, r => by
  obtain ⟨w, ws, rfl, h1, r2⟩ := r.invC
  obtain ⟨t, rfl⟩ := h1.invStr
  exact .cons y t (gO r2)
theorem fz {aS : Addr} {h : Heap} {ys : List Str} {ws : List Value} (x : StrsAre ws ys) : VRels aS h (ys.map .str) ws := by
 induction x with
 | nil => exact .nil
 | cons y t r ih => exact .cons (.str y t) ih
theorem fE {A : Around} {s : Shared} {σ : ag} {r : Value} {Q : V → ag → Prop} {P : Value → Shared → Prop} {E : Value → Shared → Prop} {ks : List Str} (ao : AOk C A k) (R : RelG C σ s)
  (hcol : ∀ R' : List Value → Shared → Prop, (∀ (h' : Heap) (tk : Nat) (d : Drawn) (vs : List Value) (ks' : List Str), (∀ b o, s.heap.get? b = some o → h'.get? b = some o) → s.heap.objs.size ≤ h'.objs.size → StrsAre vs ks' → ks'.Perm ks → R' vs { s with heap := h', toks := tk, drawn := d }) →
   wpAny (model C.prog C.w) A.in1 (collect r) R' E s) (h64 : ks.length < 64)
  (q : cJ ((lF ks).map .str) σ Q) (hP : uX C σ s Q P) : wpAny (model C.prog C.w) A (PySem.call (.builtin "sorted") [r]) P E s := by
 have hz : ks.length ≤ 16777216 := Nat.le_of_lt (Nat.lt_trans h64 (by decide))
 refine call_function_entry kind_sorted plain_sorted entry_sorted (args_sorted1 _) ?_
 unfold Builtin.«sorted»
 refine wpAny_bind (m := checkCount "sorted" 1 1 _) (wpAny_pure ?_)
 refine wpAny_bind (hcol _ fun h' tk d vs ks' hk hsz hs hp => ?_)
 have hvl : vs.length = ks.length := by rw [← hp.length_eq, ← hs.strs, List.length_map]
 refine wpAny_bind (wpAny_newList ?_ (by rw [hvl, sizeLine_eq]; exact hz))
 have hoL : (h'.push (seqObj "list" vs.toArray 0)).get? h'.objs.size = some (seqObj "list" vs.toArray 0) := Heap.get?_push_size _ rfl
 refine wpAny_bind (wpAny_holding (wpAny_call_entry slot_list_sort ⟨_, hoL, rfl⟩ entry_list_sort (rD hoL (by rw [hvl]; exact h64) hs fun out ss' h1 h2 h3 => ⟨_, rfl, ?_⟩) (args_list_sort _)))
 refine wpAny_pure ⟨_, rfl, ?_⟩
 have hsr : ss' = lF ks := wT (h2.trans hp) h3
 subst hsr
 obtain ⟨e, he⟩ := sortedHeap_at (out := out.toArray) hoL
 have hk2 : ∀ b o, s.heap.get? b = some o → (sortedHeap (h'.push (seqObj "list" vs.toArray 0)) h'.objs.size vs out.toArray).get? b = some o := fun b o eb => by
  have hb := Heap.lt_size (hk b o eb)
  rw [sortedHeap_old (Nat.ne_of_lt hb) (by rw [Heap.size_push]; exact Nat.lt_succ_of_lt hb)]
  exact Heap.get?_push_of_some _ (hk b o eb)
 have hn : s.heap.get? h'.objs.size = Option.none := aB hsz
 have hsz2 : s.heap.objs.size ≤ (sortedHeap (h'.push (seqObj "list" vs.toArray 0)) h'.objs.size vs out.toArray).objs.size := Nat.le_trans hsz (Nat.le_of_lt (Heap.lt_size he))
 exact hP (.ref h'.objs.size) (.ref h'.objs.size) (a8 σ h'.objs.size (.list ((lF ks).map .str))) _ (.ref _)
  ((R.draw d).add (tk := tk) (s := { s with drawn := d }) hk2 hn ⟨by rw [List.length_map, vg]; exact hz, out, ⟨e, he⟩, fz h1⟩) (.add hk2 hsz2 hsz) (q _ (R.freshNone hn))
theorem gm : bootBuiltins (Str.ofString "sorted") = some (.builtin "sorted") := by decide +kernel
theorem xX : bootBuiltins (Str.ofString "set") = some (.type "set") := by decide +kernel
theorem sd {s : Shared} {kvs : List (Str × V)} {kws : List (Str × Value)} {vs : List Value} (h2 : PRel C.aS s.heap kvs kws) (hl : vs.length = kws.length) (hv : ∀ (j : Nat) (v : Value), vs[j]? = some v → ∃ k x, kws[j]? = some (k, x) ∧ (PySem.strKind C.prog C.w).is k v = true) : StrsAre vs (kvs.map (·.1)) := by
 rw [h2.keys]
 clear h2
 induction kws generalizing vs with
 | nil => have : vs = [] := List.length_eq_zero_iff.mp (by simpa using hl); subst this; exact .nil
 | cons q kws ih =>
  match vs, hl with
  | v :: vs, hl =>
   obtain ⟨ky, x, e1, e2⟩ := hv 0 v rfl
   simp at e1
   subst e1
   obtain ⟨t, rfl⟩ := Value.isStrOf_shape e2
   exact .cons ky t (ih (by simpa using hl) fun j v e => hv (j + 1) v (by simpa using e))
noncomputable def qk (T : ET) : ET := fun m σ Q => T m σ fun v σ₁ => ∃ a kvs ep, v = .ref a ∧ σ₁ a = some (.dict kvs ep) ∧ kvs.length < 64 ∧ cJ ((lF (kvs.map (·.1))).map .str) σ₁ Q
theorem lR (G : Gl C p) (hpl : C.held = Option.none) {np pos ap cp : Pos} {o : Expr} {T : ET} (hn : sc.names.lookup (Str.ofString "sorted") = some .globalImplicit) (ho : HE C sc k o T)
  (hbase : ∀ env, attributeBase o (Str.ofString "keys") env (eval o env) = eval o env) (hline : (ap.endLine == cp.line) = true) :
  HE C sc k (.Call (.Name (Str.ofString "sorted") np) [.Call (.Attribute o (Str.ofString "keys") ap) [] [] cp] [] pos) (qk T) := by
 refine ⟨?_⟩; intro env A s m σ Q P E en ao R F q hP
 have O := G.ok
 refine wpAny_Call_NameR (Calls.Name_function_global en.k (en.of hn) (Calls.loadGlobal_builtin (mg := C.mg) (mb := C.mb) (by rw [en.globals]; exact O.g.keeps R.base) (G.free _ (by decide)) (by rw [en.builtins]; exact O.b.keeps R.base) (G.blt gm (by decide)) ?_) rfl)
 refine Calls.callWith_builtin (a9 rfl) (aY rfl ?_)
 show wpAny _ A (spliced ((false, eval (.Call (.Attribute o (Str.ofString "keys") ap) [] [] cp) env) :: backTo pos (starEach [] env))) _ E s
 refine Calls.spliced_cons ?_
 refine wpAny_Call_method (T := "dict") (id := "dict.keys") (hbase env) rfl hline _root_.PySem.F.plainAttrs_dict _root_.PySem.F.slot_dict_keys _root_.PySem.F.type_dict_keys ?_
 refine ho.run env A s m σ _ _ E en ao R F q fun v w σ₁ s₁ hv R₁ S₁ q₁ => ?_
 obtain ⟨a, kvs, ep, rfl, hx, h64, q₁⟩ := q₁
 cases hv
 obtain ⟨hz, kws, h1, h2⟩ := R₁.view _ _ hx
 refine ⟨h1.dictOf.typeIs, h1.dictOf.mapOf.noDict, ?_⟩
 show wpAny _ _ (callWith cp (.builtin "dict.keys") [.ref a] [] []) _ E s₁
 refine method_meetsIn _root_.PySem.F.slot_dict_keys _root_.PySem.F.entry_dict_keys rfl (PySem.evalArgs_none ⟨rfl, h1.dictOf.typeIs, _root_.PySem.F.args_dict_keys_1 _, _, kdl_meets_keys (PySem.strKind C.prog C.w) a (O.noMods (R₁.apart a (by rw [hx]; simp))), ⟨kws, h1.dictOf⟩, ?_⟩)
 refine Calls.spliced_nil ?_
 show wpAny _ A (PySem.call (.builtin "sorted") [.ref s₁.heap.objs.size]) P E _
 have hl := h2.length
 have R₂ : RelG C σ₁ { s₁ with heap := s₁.heap.push { cls := .type "dict_keys", data := .fields #[.ref a] } } := R₁.grow (tk := s₁.toks) a4
 refine fE (ks := kvs.map (·.1)) ao R₂ (fun R' hR => a7 (kdu_collect (kdl_keys (knd := PySem.strKind C.prog C.w) (kvs := kws) (ep := ep) (r := s₁.heap.objs.size) (d := a)) (by show A.handled = _; exact ao.none hpl)
  ⟨⟨_, Heap.get?_push_size _ rfl, rfl, rfl⟩, h1.push _⟩ (kdl_size (by omega)) fun h' tk acc hk hacc => ?_)) (by rw [List.length_map]; exact h64) q₁ fun v w σ' s' hv' R' S' q' => hP v w σ' s' hv' R' ((S₁.trans .push).trans S') q'
 intro hsz
 exact hR h' tk s₁.drawn acc.toList _ hk hsz (sd h2 (by rw [Array.length_toList]; exact hacc.1) fun j v e => hacc.2 j v (by rw [← Array.getElem?_toList]; exact e)) (List.Perm.refl _)
end
end Mine
end
noncomputable section
set_option tactic.hygienic false
namespace Mine
open PySem PySem.W PyProof.Rows PySem.Calls
section
variable {C : Cx} {p : Program} {sc : Scope} {k : Nat}
noncomputable def gc : bR := fun vs σ Q => onR vs fun a => ∃ kvs ep, σ a = some (.dict kvs ep) ∧ vE kvs σ Q
theorem tL (O : C.Ok) : nG C k (fun ws => PySem.call (.type "dict") ws) gc := by
 intro A s σ vs ws Q P E ao R hv q hP
 replace q := onR.elim q
 obtain ⟨a, rfl, q⟩ := q
 ·obtain ⟨wa, rfl, h1⟩ := hv.inv1
  cases h1
  obtain ⟨kvs, ep, hx, q⟩ := q
  obtain ⟨hz, kws, h1, h2⟩ := R.view _ _ hx
  have hl := h2.length
  refine a7 (kt_call_dict (knd := PySem.strKind C.prog C.w) (O.noMods (R.apart a (by rw [hx]; simp))) h1.dictOf (by rw [sizeLine_eq]; omega) fun h' hd' hs' => ?_)
  intro hsz
  obtain ⟨ep', hat⟩ := hd'.dictAt
  have hn := bw s.heap
  have hk : ∀ b o, s.heap.get? b = some o → h'.get? b = some o := fun b o e => hs'.extBut b o (Nat.ne_of_lt (Heap.lt_size e)) (Heap.get?_push_of_some _ e)
  exact hP _ _ (a8 σ s.heap.objs.size (.dict kvs ep')) _ (.ref _) (R.add (tk := s.toks) hk hn ⟨hz, kws, hat, h2.keep fun b o e _ => hk b o e⟩) (.add hk hsz (Nat.le_refl _)) (q _ ep' (R.freshNone hn))
theorem lE (G : Gl C p) {np pos : Pos} {es : List Expr} {L : LT} (hn : sc.names.lookup (Str.ofString "dict") = some .globalImplicit) (hl : HL C sc k es L) (hp : aD es = true) : HE C sc k (.Call (.Name (Str.ofString "dict") np) es [] pos) (aM gc L) :=
 iO G.ok (tL G.ok) hn (G.free _ (by decide)) (G.blt v6 (by decide)) rfl hl hp
noncomputable def cv : bR := fun vs σ Q => onRS vs fun a x => ∃ kvs ep, σ a = some (.dict kvs ep) ∧ Q ((cX kvs x).getD .none) σ
theorem xv (O : C.Ok) : nG C k (fun ws => PySem.call (.builtin "dict.get") ws) cv := by
 intro A s σ vs ws Q P E ao R hv q hP
 replace q := onRS.elim q
 obtain ⟨a, x, rfl, q⟩ := q
 ·obtain ⟨wa, wb, rfl, h1, h2⟩ := hv.inv2
  cases h1; cases h2 with | str _ t =>
  obtain ⟨kvs, ep, hx, q⟩ := q
  obtain ⟨hz, kws, h1, h2⟩ := R.view _ _ hx
  refine call_meetsIn _root_.PySem.F.slot_dict_get h1.dictOf.typeIs _root_.PySem.F.entry_dict_get (_root_.PySem.F.args_dict_get_2 _ _) (meets_dict_get (PySem.strKind C.prog C.w) a (iZ x t) (O.noMods (R.apart a (by rw [hx]; simp)))) ⟨_, h1.dictOf.mapOf, ?_⟩
  cases hg : cX kvs x with
  | none =>
   rw [hg] at q
   have e : valueAt kws x = Option.none := by
    have : (valueAt kws x).isSome = false := by rw [← h2.none (k := x), hg]; rfl
    cases e : valueAt kws x with
    | none => rfl
    | some _ => rw [e] at this; cases this
   show P ((valueAt kws x).getD .none) _
   rw [e]
   exact hP _ _ σ _ .none (R.tok _) Step.refl q
  | some v =>
   rw [hg] at q
   obtain ⟨w, e1, e2⟩ := h2.find hg
   show P ((valueAt kws x).getD .none) _
   rw [e1]
   exact hP _ _ σ _ e2 (R.tok _) Step.refl q
theorem bZ (G : Gl C p) {o : Expr} {apos pos : Pos} {es : List Expr} {To : ET} {L : LT} (ho : HE C sc k o To) (hl : HL C sc k es L) (hp : aD es = true)
  (hbase : ∀ env, attributeBase o (Str.ofString "get") env (eval o env) = eval o env) (hline : (apos.endLine == pos.line) = true) (hfew : es.length < 30) : HE C sc k (.Call (.Attribute o (Str.ofString "get") apos) es [] pos) (a6 bq cv To L) :=
 gy lU F.plainAttrs_dict F.slot_dict_get F.type_dict_get (xv G.ok) ho hl hp hbase hline hfew
noncomputable def fK : O2 := fun i o σ Q => isS i fun x => isR o fun a => ∃ kvs ep, σ a = some (.dict kvs ep) ∧ Q (.bool (!(cX kvs x).isSome)) σ
theorem iX (O : C.Ok) : hW C k (compareOp .NotIn) fK := by
 intro A s σ a b wa wb Q P E ao R va vb q hP
 replace q := isS.elim q
 obtain ⟨x, rfl, q⟩ := q
 replace q := isR.elim q
 obtain ⟨a, rfl, q⟩ := q
 ·cases va; cases vb
  obtain ⟨kvs, ep, hx, q⟩ := q
  obtain ⟨_, kws, h1, h2⟩ := R.view _ _ hx
  refine wpAny_notIn_of (knd := PySem.strKind C.prog C.w) (iZ x _) (O.noMods (R.apart a (by rw [hx]; simp))) h1.dictOf.mapOf ?_
  rw [← h2.none]
  exact hP _ _ σ _ (.bool _) (R.tok _) Step.refl q
noncomputable def lS : V → Bool
 | .none => true
 | _ => false
noncomputable def onBN (b : V) (F : Bool → Prop) (G : Prop) : Prop := match b with | .none => G | .bool y => F y | _ => False
theorem onBN.elim {b : V} {F : Bool → Prop} {G : Prop} (h : onBN b F G) : (b = .none ∧ G) ∨ ∃ y, b = .bool y ∧ F y := by
 cases b <;> first | exact .inl ⟨rfl, h⟩ | exact .inr ⟨_, rfl, h⟩ | exact False.elim h
noncomputable def c9 : O2 := fun a b σ Q => onBN b (fun y => isB a fun x => Q (.bool (x != y)) σ) (Q (.bool (!lS a)) σ)
theorem tN {h : Heap} {v : V} {w : Value} (hv : VRel C.aS h v w) : (w == Value.none) = lS v := by
 cases hv <;> rfl
theorem kB : hW C k (compareOp .IsNot) c9 := by
 intro A s σ a b wa wb Q P E ao R va vb q hP
 rcases onBN.elim q with ⟨rfl, q⟩ | ⟨y, rfl, q⟩
 ·cases vb
  exact isnot_none_gen (by rw [tN va]; exact hP _ _ σ s (.bool _) R Step.refl q)
 ·obtain ⟨x, rfl, q⟩ := isB.elim q
  cases va; cases vb
  exact isnot_bool (hP _ _ σ s (.bool _) R Step.refl q)
end
section
variable {m : aU} {σ : ag} {Q : V → ag → Prop} {R : Fl → aU → ag → Prop} {ns : List Int}
@[simp] theorem yD {T : ET} : qk T m σ Q = T m σ fun v σ₁ => ∃ a kvs ep, v = .ref a ∧ σ₁ a = some (.dict kvs ep) ∧ kvs.length < 64 ∧ cJ ((lF (kvs.map (·.1))).map .str) σ₁ Q := rfl
theorem hE {a : Addr} {kvs : List (Str × V)} {ep : Nat} (h : σ a = some (.dict kvs ep)) (q : vE kvs σ Q) : gc [.ref a] σ Q := ⟨kvs, ep, h, q⟩
theorem uj {a : Addr} {kvs : List (Str × V)} {ep : Nat} {x : Str} (h : σ a = some (.dict kvs ep)) (q : Q ((cX kvs x).getD .none) σ) : cv [.ref a, .str x] σ Q := ⟨kvs, ep, h, q⟩
theorem gQ {a : Addr} {kvs : List (Str × V)} {ep : Nat} {x : Str} (h : σ a = some (.dict kvs ep)) (q : Q (.bool (!(cX kvs x).isSome)) σ) : fK (.str x) (.ref a) σ Q := ⟨kvs, ep, h, q⟩
@[simp] theorem xB {v : V} : c9 v .none σ Q = Q (.bool (!lS v)) σ := rfl
@[simp] theorem zk {a b : Bool} : c9 (.bool a) (.bool b) σ Q = Q (.bool (a != b)) σ := rfl
end
end Mine
end
noncomputable section
namespace Mine
open PySem PySem.W PyProof.Rows PySem.Calls
abbrev cls (l : List Str) : List (List Nat) := l.map cl
abbrev cT (l : List Str) : V := .tup (l.map .str)
section
variable {prog : Program} {w : World} {A : Around} {E : Value → Shared → Prop} {s : Shared}
inductive TupsAre (h : Heap) : List Value → List (List Str) → Prop
 | nil : TupsAre h [] []
 | cons {a : Addr} {us : List Value} {xs : List Str} {vs : List Value} {xss : List (List Str)} : h.IsTuple a us.toArray → StrsAre us xs → xs ≠ [] → TupsAre h vs xss → TupsAre h (.ref a :: vs) (xs :: xss)
theorem TupsAre.all {h : Heap} : ∀ {vs : List Value} {xss : List (List Str)}, TupsAre h vs xss → ∀ v ∈ vs, ∃ a us xs, v = .ref a ∧ h.IsTuple a us.toArray ∧ StrsAre us xs ∧ xs ≠ []
 | _, _, .nil, v, hv => by simp at hv
 | _, _, .cons h1 h2 h3 r, v, hv => by
  rcases List.mem_cons.mp hv with rfl | hv
  ·exact ⟨_, _, _, rfl, h1, h2, h3⟩
  ·exact r.all v hv
theorem TupsAre.keep {h h' : Heap} (k : ∀ b o, h.get? b = some o → o.cls = .type "tuple" → h'.get? b = some o) {vs : List Value} {xss : List (List Str)} (x : TupsAre h vs xss) : TupsAre h' vs xss := by
 induction x with
 | nil => exact .nil
 | cons h1 h2 h3 _ ih => exact .cons (let ⟨o, ho, hc, r⟩ := h1; ⟨o, k _ o ho hc, hc, r⟩) h2 h3 ih
theorem pU {a b : Str} {t u : Tok} {f : Bool} {Q : Bool → Shared → Prop} (h : Q (decide (a.cps.toList < b.cps.toList)) s) : wpAny (model prog w) A (oneLt' f (.str a t) (.str b u)) Q E s := by
 cases f
 ·rw [oneLt'_eq]
  simp only [Bool.false_eq_true, if_false]
  refine wpAny_bind (wpAny_richCompare_same (typeIs_str s a t) (typeIs_str s b u) slot_str_lt (call_str_lt ⟨by simp, wpAny_truthy_bool h⟩))
 ·exact oneLt_str h
theorem sk {a : Addr} {us : List Value} {Q : Option Value → Shared → Prop} (h : s.heap.IsTuple a us.toArray) (q : Q us[0]? s) : wpAny (model prog w) A (firstOfTuple' (.ref a)) Q E s := by
 obtain ⟨o, ho, hc, n, hd⟩ := h
 refine wpAny_bind (wpAny_typeOf (T := "tuple") ⟨o, ho, hc⟩ ?_)
 show wpAny _ _ (if (Value.type "tuple" != Value.type "tuple") = true then pure none else _) Q E s
 rw [if_neg (by simp)]
 refine wpAny_bind (listItems_at ho hd (wpAny_pure ?_))
 rw [List.getElem?_toArray]
 exact q
theorem sS {f : (Value × Value) × Nat → Option Bool × Unit → Sem (ForInStep (Option Bool × Unit))}
  (hs : ∀ (x y : Str) (t u : Tok) (i : Nat) (R : ForInStep (Option Bool × Unit) → Shared → Prop), R (.yield (none, ())) s → (∀ b, R (.done (some b, ())) s) → wpAny (model prog w) A (f ((.str x t, .str y u), i) (none, ())) R E s) :
  ∀ {us vs : List Value} {xs ys : List Str} (i : Nat) {R : Option Bool × Unit → Shared → Prop}, StrsAre us xs → StrsAre vs ys → (∀ o, R (o, ()) s) →
   wpAny (model prog w) A (forIn ((us.zip vs).zipIdx i) (none, ()) f) R E s := by
 intro us vs xs ys i R h1
 induction h1 generalizing vs ys i R with
 | nil => intro h2 q; exact wpAny_pure (q _)
 | cons x t h1 ih =>
  intro h2 q
  cases h2 with
  | nil => exact wpAny_pure (q _)
  | cons y u h2 =>
   rw [List.zip_cons_cons, List.zipIdx_cons, List.forIn_cons]
   exact wpAny_bind (hs x y t u i _ (ih (i + 1) h2 q) fun b => wpAny_pure (q _))
theorem sf {a b : Addr} {us vs : List Value} {xs ys : List Str} {Q : Bool → Shared → Prop} (h1 : s.heap.IsTuple a us.toArray) (h2 : s.heap.IsTuple b vs.toArray) (h3 : StrsAre us xs) (h4 : StrsAre vs ys) (q : ∀ c, Q c s) :
  wpAny (model prog w) A (keyLt' (tuples' true) (.ref a) (.ref b)) Q E s := by
 obtain ⟨o, ho, hc, n, hd⟩ := h1
 obtain ⟨o2, ho2, hc2, n2, hd2⟩ := h2
 refine wpAny_bind (listItems_at ho hd (wpAny_bind (listItems_at ho2 hd2 ?_)))
 rw [List.toList_toArray, List.toList_toArray]
 refine wpAny_bind (sS (fun x y t u i R r1 r2 => ?_) 0 h3 h4 fun o => ?_)
 ·refine wpAny_bind (eqBool_str ?_)
  cases (x == y) with
  | true => exact wpAny_pure r1
  | false => exact wpAny_bind (pU (wpAny_pure (r2 _)))
 ·cases o with
  | none => exact wpAny_pure (q _)
  | some c => exact wpAny_pure (q c)
noncomputable def vK (h : Heap) : Value → List Str
 | .ref a => (match h.get? a with
  | some o => (match o.data with | .seq it _ => it.toList.map strOf | _ => [])
  | none => [])
 | _ => []
theorem qY {h : Heap} {a : Addr} {us : List Value} {xs : List Str} (h1 : h.IsTuple a us.toArray) (h2 : StrsAre us xs) : vK h (.ref a) = xs := by
 obtain ⟨o, ho, hc, n, hd⟩ := h1
 unfold vK
 dsimp only
 rw [ho]
 dsimp only
 rw [hd]
 dsimp only
 exact h2.strs
theorem TupsAre.map {h : Heap} : ∀ {vs : List Value} {xss : List (List Str)}, TupsAre h vs xss → vs.map (vK h) = xss
 | _, _, .nil => rfl
 | _, _, .cons h1 h2 _ r => by rw [List.map_cons, qY h1 h2, r.map]
theorem TupsAre.of_all {h : Heap} : ∀ {vs : List Value}, (∀ v ∈ vs, ∃ a us xs, v = .ref a ∧ h.IsTuple a us.toArray ∧ StrsAre us xs ∧ xs ≠ []) → TupsAre h vs (vs.map (vK h))
 | [], _ => .nil
 | v :: vs, hh => by
  obtain ⟨a, us, xs, rfl, h1, h2, h3⟩ := hh _ (.head _)
  rw [List.map_cons, qY h1 h2]
  exact .cons h1 h2 h3 (TupsAre.of_all fun v hv => hh v (.tail _ hv))
theorem kK : ∀ {vs : List Value} {xss : List (List Str)} {Q : List (Option Value) → Shared → Prop}, TupsAre s.heap vs xss → (∀ (us : List Value) (ss : List Str), StrsAre us ss → us.length = vs.length → Q (us.map some) s) → wpAny (model prog w) A (vs.mapM firstOfTuple') Q E s
 | _, _, Q, .nil, q => wpAny_pure (q [] [] .nil rfl)
 | _, _, Q, .cons h1 h2 h3 r, q => by
  rw [List.mapM_cons]
  refine wpAny_bind (sk h1 (wpAny_bind (kK r fun us ss hu hl => wpAny_pure ?_)))
  cases h2 with
  | nil => exact absurd rfl h3
  | cons x t h2 => exact q (.str x t :: us) (x :: ss) (.cons x t hu) (by simp [hl])
theorem t6 {vs : List Value} {xss : List (List Str)} {Q : SortKind → Shared → Prop} (h : TupsAre s.heap vs xss) (h2 : 2 ≤ vs.length) (q : Q (tuples' true) s) : wpAny (model prog w) A (keyKind' vs.toArray) Q E s := by
 rw [keyKind'_eq, List.mapM_toArray]
 refine wpAny_bind (wpAny_map (kK h fun us ss hu hl => ?_))
 have h1 : ((us.map some).toArray.all fun x : Option Value => x.isSome) = true := by simp
 rw [if_pos h1]
 refine wpAny_bind (wpAny_rule ?_)
 have h3 : Array.filterMap id (us.map some).toArray = us.toArray := by
  rw [List.filterMap_toArray]; simp
 rw [h3, oneTypeOnly'_eq, List.mapM_toArray, mapM_typeOf_strs hu]
 have h4 : us.length ≠ 0 := by omega
 cases hu with
 | nil => exact absurd rfl h4
 | cons x t hu =>
  rename_i us ss
  have h5 : ((List.map (fun _ => Value.type "str") (Value.str x t :: us)).toArray.all fun x => x == Value.type "str") = true := by
   simp only [List.all_toArray, List.all_map, List.all_eq_true]
   intro _ _
   rfl
  have h6 : (List.map (fun _ => Value.type "str") (Value.str x t :: us)).toArray[0]? = some (Value.type "str") := by simp
  simp only [map_pure, pure_bind]
  rw [h6]
  simp only [h5, if_true, pure_bind]
  exact wpAny_pure q
theorem rC {a : Addr} {vs : List Value} {xss : List (List Str)} {n : Nat} {P : PySem.Fin → Shared → Prop} (ho : s.heap.get? a = some (seqObj "list" vs.toArray n)) (h64 : vs.length < 64) (hS : TupsAre s.heap vs xss)
  (h : ∀ (out : List Value) (yss : List (List Str)), yss.Perm xss → TupsAre s.heap out yss → P (.done (.ret .none)) { s with heap := sortedHeap s.heap a vs out.toArray }) :
  wpAny (model prog w) A (Builtin.«list.sort» ⟨[.ref a], []⟩) P E s := by
 have keep : ∀ s' : Shared, (∀ b o, b ≠ a → s.heap.get? b = some o → s'.heap.get? b = some o) → ∀ b o, s.heap.get? b = some o → o.cls = .type "tuple" → s'.heap.get? b = some o := fun s' hk b o h1 h2 =>
  hk b o (by rintro rfl; rw [ho] at h1; cases h1; simp at h2) h1
 refine s4 (kd := tuples' true) ho h64 (fun h2 s' hk Q q => t6 (hS.keep (keep s' hk)) h2 q) (fun s' hk x hx y hy C hC => ?_) fun out hp => ?_
 ·obtain ⟨b, us, xs, rfl, t1, t2, t3⟩ := hS.all _ hx
  obtain ⟨c, us', xs', rfl, u1, u2, u3⟩ := hS.all _ hy
  exact sf (let ⟨o, ho, hc, r⟩ := t1; ⟨o, keep s' hk _ o ho hc, hc, r⟩) (let ⟨o, ho, hc, r⟩ := u1; ⟨o, keep s' hk _ o ho hc, hc, r⟩) t2 u2 hC
 ·exact h out _ (by rw [← hS.map]; exact hp.map _) (TupsAre.of_all fun v hv => hS.all v (hp.mem_iff.mp hv))
end
section
variable {C : Cx} {p : Program} {sc : Scope} {k : Nat}
theorem j3 {aS : Addr} {h : Heap} : ∀ {xss : List (List Str)} {ws : List Value}, VRels aS h (xss.map cT) ws → (∀ l ∈ xss, l ≠ []) → TupsAre h ws xss
 | [], _, r, _ => by rw [r.inv0]; exact .nil
 | x :: xss, _, r, hn => by
  obtain ⟨w, ws, rfl, h1, r2⟩ := r.invC
  cases h1 with
  | tup ht hs => exact .cons ht (gO hs) (hn _ (.head _)) (j3 r2 fun l hl => hn l (.tail _ hl))
theorem ui : ∀ xs : List Str, xC (xs.map .str) = true
 | [] => rfl
 | _ :: _ => rfl
theorem jh {aS : Addr} {h : Heap} : ∀ {xss : List (List Str)} {ws : List Value}, TupsAre h ws xss → VRels aS h (xss.map cT) ws
 | _, _, .nil => .nil
 | _, _, .cons h1 h2 _ r => .cons (.tup h1 (fz h2) (wJ (fz (aS := aS) (h := h) h2) (ui _))) (jh r)
noncomputable def mV : bR := fun vs σ Q => onR vs fun a => ∃ xss : List (List Str), σ a = some (.list (xss.map cT)) ∧ (∀ l ∈ xss, l ≠ []) ∧ xss.length < 64 ∧ ∀ yss : List (List Str), yss.Perm xss → cJ (yss.map cT) σ Q
theorem pV (O : C.Ok) : nG C k (fun ws => PySem.call (.builtin "sorted") ws) mV := by
 intro A s σ vs ws Q P E ao R hv q hP
 replace q := onR.elim q
 obtain ⟨a, rfl, q⟩ := q
 ·obtain ⟨wa, rfl, h1⟩ := hv.inv1
  cases h1
  obtain ⟨xss, hx, hn, h64, q⟩ := q
  obtain ⟨hz, us, h2, h3⟩ := R.view _ _ hx
  have hlen := h3.length
  have hT := j3 h3 hn
  refine call_function_entry kind_sorted plain_sorted entry_sorted (args_sorted1 _) ?_
  unfold Builtin.«sorted»
  refine wpAny_bind (m := checkCount "sorted" 1 1 _) (wpAny_pure ?_)
  refine wpAny_bind (a7 (collect_list h2.isList ?_ (by rw [← hlen, sizeLine_eq]; exact hz)))
  intro hsz
  have hk : ∀ b o, s.heap.get? b = some o → ((s.heap.push (seqObj "list" #[] 0)).update s.heap.objs.size (Obj.mapSeq fun x => x ++ us.toArray)).get? b = some o := fun b o e => by
   rw [Heap.get?_update_ne _ _ _ _ (Nat.ne_of_lt (Heap.lt_size e))]
   exact Heap.get?_push_of_some _ e
  generalize (s.heap.push (seqObj "list" #[] 0)).update s.heap.objs.size (Obj.mapSeq fun x => x ++ us.toArray) = h' at hk hsz ⊢
  have hvl : us.length ≤ 16777216 := by rw [← hlen]; exact hz
  refine wpAny_bind (wpAny_newList ?_ (by rw [sizeLine_eq]; exact hvl))
  have hoL : (h'.push (seqObj "list" us.toArray 0)).get? h'.objs.size = some (seqObj "list" us.toArray 0) := Heap.get?_push_size _ rfl
  have hT2 : TupsAre (h'.push (seqObj "list" us.toArray 0)) us xss := hT.keep fun b o e _ => Heap.get?_push_of_some _ (hk b o e)
  refine wpAny_bind (wpAny_holding (wpAny_call_entry slot_list_sort ⟨_, hoL, rfl⟩ entry_list_sort (rC hoL (by rw [← hlen, List.length_map]; exact h64) hT2 fun out yss hpm h1 => ⟨_, rfl, ?_⟩) (args_list_sort _)))
  refine wpAny_pure ⟨_, rfl, ?_⟩
  obtain ⟨e, he⟩ := sortedHeap_at (out := out.toArray) hoL
  have hk2 : ∀ b o, s.heap.get? b = some o → (sortedHeap (h'.push (seqObj "list" us.toArray 0)) h'.objs.size us out.toArray).get? b = some o := fun b o eb => by
   have hb := Heap.lt_size (hk b o eb)
   rw [sortedHeap_old (Nat.ne_of_lt hb) (by rw [Heap.size_push]; exact Nat.lt_succ_of_lt hb)]
   exact Heap.get?_push_of_some _ (hk b o eb)
  have hn2 : s.heap.get? h'.objs.size = Option.none := aB hsz
  have hsz2 : s.heap.objs.size ≤ (sortedHeap (h'.push (seqObj "list" us.toArray 0)) h'.objs.size us out.toArray).objs.size := Nat.le_trans hsz (Nat.le_of_lt (Heap.lt_size he))
  have hT3 : TupsAre (sortedHeap (h'.push (seqObj "list" us.toArray 0)) h'.objs.size us out.toArray) out yss := h1.keep fun b o eb hc => by
   rw [sortedHeap_old (by rintro rfl; rw [hoL] at eb; cases eb; simp at hc) (Heap.lt_size eb)]
   exact eb
  exact hP (.ref h'.objs.size) (.ref h'.objs.size) (a8 σ h'.objs.size (.list (yss.map cT))) _ (.ref _)
   (R.add (tk := s.toks) hk2 hn2 ⟨by rw [List.length_map, hpm.length_eq]; simpa using hz, out, ⟨e, he⟩, jh hT3⟩) (.add hk2 hsz2 hsz) (q yss hpm _ (R.freshNone hn2))
theorem qA (G : Gl C p) (hpl : C.held = Option.none) {np pos : Pos} {es : List Expr} {L : LT} (hn : sc.names.lookup (Str.ofString "sorted") = some .globalImplicit) (hl : HL C sc k es L) (hp : aD es = true) : HE C sc k (.Call (.Name (Str.ofString "sorted") np) es [] pos) (aM mV L) :=
 c7 G.ok (pV G.ok) hn (G.free _ (by decide)) (G.blt gm (by decide)) rfl hl hp
end
end Mine
end
noncomputable section
set_option tactic.hygienic false
namespace Mine
open PySem
noncomputable def FrsOk (C : Cx) (σ : ag) (h : Heap) (fs : List Env) : Prop := ∀ x ∈ fs, x.scope.kind ≠ .module ∧ ∃ L, x.frame = some L ∧ C.hB.get? L = none ∧ σ L = none ∧ ∃ o es ep, h.get? L = some o ∧ o.data = .dict es ep
structure FOk (C : Cx) (A : Around) (env : Env) (σ : ag) (h : Heap) : Prop where
 frames : ∃ outer, A.frames = some (env :: outer) ∧ FrsOk C σ h outer ∧ ∀ x ∈ outer, ∀ L, x.frame = some L → ¬ jd env L
 frame : env.frame = some env.locals
inductive FlyB (n : Nat) (σ : ag) (h : Heap) (e : Addr) (ok : Option Value → Prop) (vs : Array Value) : Prop
 | mk (T : Addr) (oT : Obj) (ts : Array Value) (fl : Value) (h1 : vs[1]? = some (.ref T)) (hn : n ≤ T) (hs : σ T = none) (hne : T ≠ e) (ho : h.get? T = some oT) (hd : oT.data = .fields ts) (h3 : ts[3]? = some fl) (hk : ok (some fl)) : FlyB n σ h e ok vs
inductive FlyTb (n : Nat) (σ : ag) (h : Heap) (e : Addr) (ok : Option Value → Prop) (vs : Array Value) : Prop
 | inl (x : ok none ∧ vs[1]? = some .none) : FlyTb n σ h e ok vs
 | inr (x : FlyB n σ h e ok vs) : FlyTb n σ h e ok vs
inductive FlyO (C : Cx) (c : String) (n : Nat) (σ : ag) (h : Heap) (e : Addr) (ok : Option Value → Prop) : Prop
 | mk (oe : Obj) (vs : Array Value) (Cl : Addr) (he : h.get? e = some oe) (hg : C.mg (Str.ofString c) = some (.ref Cl)) (hc : oe.cls = .ref Cl) (hd : oe.data = .fields vs) (h2 : vs[2]? = some .none) (h2s : 2 < vs.size) (tb : FlyTb n σ h e ok vs) : FlyO C c n σ h e ok
structure Fly (C : Cx) (c : String) (n : Nat) (σ : ag) (h : Heap) (e : Addr) (ok : Option Value → Prop) : Prop where
 obj : FlyO C c n σ h e ok
 new : n ≤ e
 sep : σ e = none
structure Moved (n : Nat) (σ : ag) (S : List Addr) (h h' : Heap) : Prop where
 size : h.objs.size ≤ h'.objs.size
 keep : ∀ b o, h.get? b = some o → (b < n ∨ σ b ≠ none ∨ ∀ vs, o.data ≠ .fields vs) → b ∉ S → h'.get? b = some o
 slots : ∀ b o, h.get? b = some o → b ∈ S → ∃ sl, h'.get? b = some { o with slots := sl }
theorem Moved.trans {n : Nat} {σ : ag} {S : List Addr} {h₁ h₂ h₃ : Heap} (x : Moved n σ S h₁ h₂) (y : Moved n σ S h₂ h₃) : Moved n σ S h₁ h₃ where
 size := Nat.le_trans x.size y.size
 keep := fun b o e z q => y.keep b o (x.keep b o e z q) z q
 slots := fun b o e q => by
  obtain ⟨sl, h1⟩ := x.slots b o e q
  obtain ⟨sl', h2⟩ := y.slots b _ h1 q
  exact ⟨sl', h2⟩
theorem Moved.refl {n : Nat} {σ : ag} {S : List Addr} {h : Heap} : Moved n σ S h h := ⟨Nat.le_refl _, fun _ _ e _ _ => e, fun _ o e _ => ⟨o.slots, e⟩⟩
section
variable {C : Cx} {M : Model} {A : Around} {E : Value → Shared → Prop} {s : Shared} {env : Env} {σ : ag} {m : aU} {c : String} {n : Nat} {e : Addr} {ok : Option Value → Prop}
noncomputable def frs (env : Env) (outer : List Env) : List Addr := (env :: outer).filterMap (·.frame)
theorem qe {outer : List Env} (hf : env.frame = some env.locals) (hk : env.scope.kind = .function) (F : FrameRel C env m σ s.heap) (ho : FrsOk C σ s.heap outer) : s.heap.FunFrames C.hB (env :: outer) := by
 obtain ⟨mm, ⟨oL, es, ep, hoL, hdL, _⟩, _⟩ := F.ns
 refine ⟨by rw [hk]; decide, ⟨_, oL, hf, F.baseL, hoL, fun vs q => by rw [hdL] at q; cases q⟩, ?_⟩
 clear F hoL hdL
 induction outer with
 | nil => trivial
 | cons x r ih =>
  obtain ⟨h1, L, h2, h3, h4, o, es', ep', h5, h6⟩ := ho x (.head _)
  exact ⟨h1, ⟨L, o, h2, h3, h5, fun vs q => by rw [h6] at q; cases q⟩, ih fun y hy => ho y (.tail _ hy)⟩
theorem l7 {outer : List Env} {oe : Obj} {vs : Array Value} {Cl : Addr} {head : Value} {had : Bool} {Q : Unit → Shared → Prop} (hfr : A.frames = some (env :: outer)) (hl : s.heap.FunFrames C.hB (env :: outer)) (hf : env.frame = some env.locals)
  (he : s.heap.get? e = some oe) (hmg : C.mg (Str.ofString c) = some (.ref Cl)) (hcls : oe.cls = .ref Cl) (hd : oe.data = .fields vs) (h2 : vs[2]? = some .none) (hn : n ≤ e) (hnz : n ≤ s.heap.objs.size) (hs : σ e = none) (hsT : σ s.heap.objs.size = none)
  (h : ∀ h', Fly C c n σ h' e (fun x => x = some (rawInt env.locals)) → Moved n σ (frs env outer) s.heap h' → Q () { s with heap := h' }) :
  wpAny M A (do let a ← frameOf env; let pl ← entryPlaceOf env.locals had; let b ← EntryCells.newEntry head a .none (rawInt env.locals) .none pl; setField (.ref e) 1 b) Q E s := by
 have hene : e ∉ frs env outer := fun hm => by
  obtain ⟨_, o, ho, hnf⟩ := hl.mem hm
  rw [he] at ho; cases ho; exact hnf vs hd
 have h1sz : 2 < vs.size := (Array.getElem?_eq_some_iff.mp h2).1
 refine wpAny_bind (wpAny_frameOf_fun hfr hl hf fun h₁ hs₁ => ?_)
 refine wpAny_bind (wpAny_entryPlaceOf fun pl hpl => ?_)
 unfold EntryCells.newEntry newFields
 refine wpAny_bind (wpAny_newObj_type ?_ (hpl.sizeOk5 _ _ _ _ _))
 generalize hot : ({ cls := .type "traceback", dict := none, data := .fields ([head, .ref env.locals, .none, rawInt env.locals, .none] ++ (if pl.isEmpty then List.replicate 6 Value.none else pl)).toArray } : Obj) = ot
 have hdt : ot.data = .fields ([head, .ref env.locals, .none, rawInt env.locals, .none] ++ (if pl.isEmpty then List.replicate 6 Value.none else pl)).toArray := by rw [← hot]
 have he₁ : h₁.get? e = some oe := (hs₁.2.1 e hene).trans he
 have he₂ := Heap.get?_push_of_some (h := h₁) ot he₁
 have hTe : h₁.objs.size ≠ e := Nat.ne_of_gt (Heap.lt_size he₁)
 have hd₃ := Obj.data_mapFields hd (·.setIfInBounds 1 (Value.ref h₁.objs.size))
 refine wpAny_setField he₂ hd (by exact Nat.le_of_lt h1sz) (h _ ?_ ?_)
 ·have he₃ := Heap.get?_update_self (Obj.mapFields (·.setIfInBounds 1 (Value.ref h₁.objs.size))) he₂ (Obj.isFreed_of_fields hd₃)
  have hT₃ := (Heap.get?_update_other (h₁.push ot) (Obj.mapFields (·.setIfInBounds 1 (Value.ref h₁.objs.size))) (Ne.symm hTe)).trans (Heap.get?_push_size h₁ (by rw [← hot]; rfl))
  refine ⟨⟨_, _, Cl, he₃, hmg, (Obj.cls_mapFields _ _).trans hcls, hd₃, by rw [Array.getElem?_setIfInBounds_ne (by decide)]; exact h2, by rw [Array.size_setIfInBounds]; exact h1sz, .inr ⟨h₁.objs.size, ot, _, rawInt env.locals, by rw [Array.getElem?_setIfInBounds_self_of_lt (by exact Nat.le_of_lt h1sz)], by rw [hs₁.1]; exact hnz, by rw [hs₁.1]; exact hsT, hTe, hT₃, hdt, by rfl, rfl⟩⟩, hn, hs⟩
 ·refine ⟨?_, fun b o hb hz hq => ?_, fun b o hb hq => ?_⟩
  ·rw [Heap.size_after_update, Heap.size_push, hs₁.1]; exact Nat.le_succ _
  ·have hbe : b ≠ e := by
    rintro rfl
    rw [he] at hb; cases hb
    rcases hz with z | z | z
    ·exact absurd hn (Nat.not_le.mpr z)
    ·exact z hs
    ·exact z vs hd
   rw [Heap.get?_update_other _ _ (Ne.symm hbe)]
   exact Heap.get?_push_of_some _ ((hs₁.2.1 b hq).trans hb)
  ·obtain ⟨sl, h3⟩ := hs₁.2.2 b o hb
   have hbe : b ≠ e := fun q => hene (q ▸ hq)
   exact ⟨sl, by rw [Heap.get?_update_other _ _ (Ne.symm hbe)]; exact Heap.get?_push_of_some _ h3⟩
theorem Fly.head {T : Addr} {oe oT : Obj} {vs ts : Array Value} {Cl : Addr} {h : Heap} {S : List Addr} (v : Value) (he : h.get? e = some oe) (hmg : C.mg (Str.ofString c) = some (.ref Cl)) (hcls : oe.cls = .ref Cl) (hd : oe.data = .fields vs) (h2 : vs[2]? = some .none) (h2s : 2 < vs.size)
  (h1 : vs[1]? = some (.ref T)) (hT : n ≤ T) (hσ : σ T = none) (hTe : T ≠ e) (hoT : h.get? T = some oT) (hdT : oT.data = .fields ts) (h3 : 3 < ts.size) (hn : n ≤ e) (hs : σ e = none) (hTS : T ∉ S) :
  Fly C c n σ (h.update T (Obj.mapFields (·.setIfInBounds 3 v))) e (fun x => x = some v) ∧ Moved n σ S h (h.update T (Obj.mapFields (·.setIfInBounds 3 v))) := by
 have other : ∀ b, b ≠ T → (h.update T (Obj.mapFields (·.setIfInBounds 3 v))).get? b = h.get? b := fun b hb => Heap.get?_update_other _ _ (Ne.symm hb)
 have hd₃ := Obj.data_mapFields hdT (·.setIfInBounds 3 v)
 have self := Heap.get?_update_self (Obj.mapFields (·.setIfInBounds 3 v)) hoT (Obj.isFreed_of_fields hd₃)
 refine ⟨⟨⟨oe, vs, Cl, (other e (Ne.symm hTe)).trans he, hmg, hcls, hd, h2, h2s, .inr ⟨T, _, _, v, h1, hT, hσ, hTe, self, hd₃, by rw [Array.getElem?_setIfInBounds_self_of_lt h3], rfl⟩⟩, hn, hs⟩, ?_⟩
 refine ⟨by rw [Heap.size_after_update]; exact Nat.le_refl _, fun b o hb hz hq => ?_, fun b o hb hq => ⟨o.slots, (other b (fun q => hTS (q ▸ hq))).trans hb⟩⟩
 refine (other b ?_).trans hb
 rintro rfl
 rw [hoT] at hb; cases hb
 rcases hz with z | z | z
 ·exact absurd hT (Nat.not_le.mpr z)
 ·exact z hσ
 ·exact z ts hdT
theorem zc {outer : List Env} {Q : Unit → Shared → Prop} (hfr : A.frames = some (env :: outer)) (hl : s.heap.FunFrames C.hB (env :: outer)) (hf : env.frame = some env.locals) (hnz : n ≤ s.heap.objs.size) (hsT : σ s.heap.objs.size = none)
  (X : Fly C c n σ s.heap e (fun x => x = none ∨ x = some .none ∨ x = some (rawInt env.locals)))
  (h : ∀ h', Fly C c n σ h' e (fun x => x = some (rawInt env.locals)) → Moved n σ (frs env outer) s.heap h' → Q () { s with heap := h' }) : wpAny M A (noteFrame (.ref e) env) Q E s := by
 obtain ⟨⟨oe, vs, Cl, he, hmg, hcls, hd, h2, h2s, hT⟩, hn, hs⟩ := X
 unfold noteFrame
 simp only [hf]
 rcases hT with ⟨_, h1⟩ | ⟨T, oT, ts, fl, h1, hT, hσ, hTe, hoT, hdT, h3, hok⟩
 ·refine wpAny_bind (wpAny_field he hd h1 ?_)
  rw [if_neg (by decide)]
  exact l7 hfr hl hf he hmg hcls hd h2 hn hnz hs hsT h
 ·refine wpAny_bind (wpAny_field he hd h1 ?_)
  rw [if_pos (show (Value.ref T != Value.none) = true from by simp)]
  refine wpAny_bind (wpAny_field hoT hdT h3 ?_)
  have h3s : 3 < ts.size := (Array.getElem?_eq_some_iff.mp h3).1
  have hTS : T ∉ frs env outer := fun hm => by
   obtain ⟨_, o, ho, hnf⟩ := hl.mem hm
   rw [hoT] at ho; cases ho; exact hnf ts hdT
  rcases hok with hok | hok | hok
  ·cases hok
  ·cases hok
   rw [if_neg (show ¬ ((Value.none == rawInt env.locals) = true) from by simp [rawInt])]
   refine wpAny_bind (wpAny_setField hoT hdT h3s ?_)
   obtain ⟨⟨⟨oe', vs', Cl', he', hmg', hcls', hd', h2', _, _⟩, _, _⟩, Mv⟩ := Fly.head (S := frs env outer) (c := c) .none he hmg hcls hd h2 h2s h1 hT hσ hTe hoT hdT h3s hn hs hTS
   refine l7 hfr (hl.of_keeps fun b o hb hnf => ⟨o, ?_, rfl⟩) hf he' hmg' hcls' hd' h2' hn (by rw [Heap.size_after_update]; exact hnz) hs (by rw [Heap.size_after_update]; exact hsT) fun h' F' M' => h h' F' (Mv.trans M')
   rw [Heap.get?_update_other _ _ (fun q => by rw [← q, hoT] at hb; cases hb; exact hnf ts hdT)]
   exact hb
  ·cases hok
   rw [if_pos (show (rawInt env.locals == rawInt env.locals) = true from by simp)]
   exact wpAny_pure (h s.heap ⟨⟨oe, vs, Cl, he, hmg, hcls, hd, h2, h2s, .inr ⟨T, oT, ts, _, h1, hT, hσ, hTe, hoT, hdT, h3, rfl⟩⟩, hn, hs⟩ .refl)
theorem vR {fr : Option Addr} {S : List Addr} {Q : Unit → Shared → Prop} (X : Fly C c n σ s.heap e (fun x => x ≠ none)) (hS : ∀ b o, s.heap.get? b = some o → b ∈ S → ∀ vs, o.data ≠ .fields vs)
  (h : ∀ h', Fly C c n σ h' e (fun x => x = some (fr.elim .none fun f => rawInt f)) → Moved n σ S s.heap h' → Q () { s with heap := h' }) : wpAny M A (setFlight (.ref e) fr) Q E s := by
 obtain ⟨⟨oe, vs, Cl, he, hmg, hcls, hd, h2, h2s, hT⟩, hn, hs⟩ := X
 rcases hT with ⟨h0, _⟩ | ⟨T, oT, ts, fl, h1, hT, hσ, hTe, hoT, hdT, h3, _⟩
 ·exact absurd rfl h0
 have h3s : 3 < ts.size := (Array.getElem?_eq_some_iff.mp h3).1
 unfold setFlight
 refine wpAny_bind (wpAny_field he hd h1 ?_)
 rw [if_pos (show (Value.ref T != Value.none) = true from by simp)]
 obtain ⟨F', M'⟩ := Fly.head (S := S) (c := c) (fr.elim .none fun f => rawInt f) he hmg hcls hd h2 h2s h1 hT hσ hTe hoT hdT h3s hn hs fun hm => hS T oT hoT hm ts hdT
 exact wpAny_setField hoT hdT h3s (h _ F' M')
theorem Fly.mono {ok' : Option Value → Prop} {h : Heap} (X : Fly C c n σ h e ok) (k : ∀ x, ok x → ok' x) : Fly C c n σ h e ok' := by
 obtain ⟨⟨oe, vs, Cl, he, hmg, hcls, hd, h2, h2s, hT⟩, hn, hs⟩ := X
 refine ⟨⟨oe, vs, Cl, he, hmg, hcls, hd, h2, h2s, ?_⟩, hn, hs⟩
 rcases hT with ⟨h0, h1⟩ | ⟨T, oT, ts, fl, h1, hT, hσ, hTe, hoT, hdT, h3, hk⟩
 ·exact .inl ⟨k _ h0, h1⟩
 ·exact .inr ⟨T, oT, ts, fl, h1, hT, hσ, hTe, hoT, hdT, h3, k _ hk⟩
theorem Fly.less {n' : Nat} {h : Heap} (X : Fly C c n σ h e ok) (k : n' ≤ n) : Fly C c n' σ h e ok := by
 obtain ⟨⟨oe, vs, Cl, he, hmg, hcls, hd, h2, h2s, hT⟩, hn, hs⟩ := X
 refine ⟨⟨oe, vs, Cl, he, hmg, hcls, hd, h2, h2s, ?_⟩, Nat.le_trans k hn, hs⟩
 rcases hT with ⟨h0, h1⟩ | ⟨T, oT, ts, fl, h1, hT, hσ, hTe, hoT, hdT, h3, hk⟩
 ·exact .inl ⟨h0, h1⟩
 ·exact .inr ⟨T, oT, ts, fl, h1, Nat.le_trans k hT, hσ, hTe, hoT, hdT, h3, hk⟩
end
end Mine
end
noncomputable section
set_option tactic.hygienic false
namespace Mine
open PySem
section
variable {C : Cx} {env : Env} {m : aU} {σ σ' : ag} {n : Nat} {S : List Addr}
noncomputable def DS (h : Heap) (S : List Addr) : Prop := ∀ b ∈ S, ∀ o, h.get? b = some o → ∃ es ep, o.data = .dict es ep
theorem Moved.tups {h h' : Heap} (M : Moved n σ S h h') (d : DS h S) : a0 h h' := fun b o e ht => by
 obtain ⟨_, it, k, hd, _⟩ := ht
 refine M.keep b o e (.inr (.inr fun vs q => by rw [hd] at q; cases q)) fun hb => ?_
 obtain ⟨es, ep, q⟩ := d b hb o e
 rw [hd] at q; cases q
theorem RelG.moved {s : Shared} {h' : Heap} (R : RelG C σ s) (M : Moved n σ S s.heap h') (d : DS s.heap S) (hS : ∀ b ∈ S, C.hB.get? b = none ∧ σ b = none) (hn : ∀ b o, C.hB.get? b = some o → b < n) : RelG C σ { s with heap := h' } := by
 refine ⟨let ⟨_, tk, dr, e⟩ := R.rest; ⟨h', tk, dr, by rw [e]⟩, fun b o e => ?_, fun a o e => ?_, R.apart⟩
 ·exact M.keep b o (R.base b o e) (.inl (hn b o e)) fun hb => by rw [(hS b hb).1] at e; cases e
 ·refine (R.view a o e).keep (M.tups d) fun o' e' => M.keep a o' e' (.inr (.inl (by rw [e]; simp))) fun hb => by rw [(hS a hb).2] at e; cases e
theorem Moved.like {h h' : Heap} {b : Addr} {o : Obj} (M : Moved n σ S h h') (d : DS h S) (e : h.get? b = some o) (z : b < n ∨ σ b ≠ none ∨ ∀ vs, o.data ≠ .fields vs) : ∃ o', h'.get? b = some o' ∧ Like o o' := by
 by_cases hb : b ∈ S
 ·obtain ⟨sl, h1⟩ := M.slots b o e hb
  exact ⟨_, h1, .inr ⟨d b hb o e, sl, rfl⟩⟩
 ·exact ⟨o, M.keep b o e z hb, .refl o⟩
theorem FrameRel.moved {h h' : Heap} (F : FrameRel C env m σ h) (M : Moved n σ S h h') (d : DS h S) : FrameRel C env m σ h' := by
 have kt := M.tups d
 have kc : ∀ c v, h.IsCell c v → h'.IsCell c v := fun c v ⟨o, ho, hd⟩ => ⟨o, M.keep c o ho (.inr (.inr fun vs q => by rw [hd] at q; cases q)) (fun hb => by
  obtain ⟨es, ep, q⟩ := d c hb o ho
  rw [hd] at q; cases q), hd⟩
 obtain ⟨mm, hn, hv⟩ := F.ns
 refine ⟨⟨mm, Like.ns hn fun o e => M.like d e (.inr (.inr fun vs q => ?_)), fun x v e k => ?_⟩, fun x v e => ?_, fun n c e => ?_, F.sepL, F.baseL, F.baseC, F.dist, F.has⟩
 ·obtain ⟨oL, es, ep, ho, hd, _⟩ := hn
  rw [ho] at e; cases e; rw [hd] at q; cases q
 ·obtain ⟨w, h1, h2⟩ := hv x v e k; exact ⟨w, h1, h2.keep kt⟩
 ·rcases F.cel x v e with q | ⟨q, c, w, h1, h2, h3⟩
  ·exact .inl q
  ·exact .inr ⟨q, c, w, h1, kc _ _ h2, h3.keep kt⟩
 ·obtain ⟨v, hv⟩ := F.cells n c e; exact ⟨v, kc _ _ hv⟩
theorem Step.moved {own : Addr → Prop} {σ₀ : ag} {h₀ h h' : Heap} (x : Step own σ₀ σ h₀ h) (M : Moved n σ S h h') (d : DS h S) (hn : h₀.objs.size ≤ n) : Step own σ₀ σ h₀ h' where
 keepL := fun b o e z q => by
  obtain ⟨o', h1, h2⟩ := x.keepL b o e z q
  obtain ⟨o'', h3, h4⟩ := M.like d h1 (.inl (Nat.lt_of_lt_of_le (Heap.lt_size e) hn))
  exact ⟨o'', h3, h2.trans h4⟩
 size := Nat.le_trans x.size M.size
 new := x.new
theorem Like.dict {o o' : Obj} (x : Like o o') {es : Array DictEntry} {ep : Nat} (h : o.data = .dict es ep) : o'.data = .dict es ep := by
 rcases x with rfl | ⟨_, sl, rfl⟩ <;> exact h
theorem FrsOk.step {own : Addr → Prop} {h h' : Heap} {fs : List Env} (x : FrsOk C σ h fs) (S : Step own σ σ' h h') (ho : ∀ y ∈ fs, ∀ L, y.frame = some L → ¬ own L) : FrsOk C σ' h' fs := fun y hy => by
 obtain ⟨h1, L, h2, h3, h4, o, es, ep, h5, h6⟩ := x y hy
 obtain ⟨o', h7, h8⟩ := S.keepL L o h5 h4 (ho y hy L h2)
 refine ⟨h1, L, h2, h3, ?_, o', es, ep, h7, h8.dict h6⟩
 cases z : σ' L with
 | none => rfl
 | some q => exact absurd (Heap.lt_size h5) (Nat.not_lt.mpr (S.new L h4 (by rw [z]; simp)))
theorem FOk.step {A : Around} {h h' : Heap} (x : FOk C A env σ h) (S : Step (jd env) σ σ' h h') : FOk C A env σ' h' := by
 obtain ⟨⟨outer, h1, h2, h3⟩, h4⟩ := x
 exact ⟨⟨outer, h1, h2.step S h3, h3⟩, h4⟩
theorem uo {s : Shared} {outer : List Env} (F : FrameRel C env m σ s.heap) (hf : env.frame = some env.locals) (ho : FrsOk C σ s.heap outer) : DS s.heap (frs env outer) ∧ ∀ b ∈ frs env outer, C.hB.get? b = none ∧ σ b = none := by
 have key : ∀ b ∈ frs env outer, (C.hB.get? b = none ∧ σ b = none) ∧ ∃ o es ep, s.heap.get? b = some o ∧ o.data = .dict es ep := by
  intro b hb
  unfold frs at hb
  rw [List.filterMap_cons, hf] at hb
  rcases List.mem_cons.mp hb with rfl | hb
  ·obtain ⟨mm, ⟨oL, es, ep, hoL, hdL, _⟩, _⟩ := F.ns
   exact ⟨⟨F.baseL, F.sepL⟩, oL, es, ep, hoL, hdL⟩
  ·obtain ⟨y, hy, hyb⟩ := List.mem_filterMap.mp hb
   obtain ⟨_, L, h2, h3, h4, h5⟩ := ho y hy
   rw [h2] at hyb; cases hyb
   exact ⟨⟨h3, h4⟩, h5⟩
 refine ⟨fun b hb o e => ?_, fun b hb => (key b hb).1⟩
 obtain ⟨_, o', es, ep, h1, h2⟩ := key b hb
 rw [e] at h1; cases h1; exact ⟨es, ep, h2⟩
end
abbrev XT := String → aU → ag → Prop
abbrev bN := aU → ag → (Fl → aU → ag → Prop) → XT → Prop
noncomputable def rY (env : Env) : Option Value → Prop := fun x => x = none ∨ x = some .none ∨ x = some (rawInt env.locals)
abbrev AftX (C : Cx) (env : Env) (σ : ag) (s : Shared) (X : XT) (E : Value → Shared → Prop) : Prop :=
 ∀ c e m' σ' s', Fly C c s.heap.objs.size σ' s'.heap e (rY env) → RelG C σ' s' → FrameRel C env m' σ' s'.heap → Step (jd env) σ σ' s.heap s'.heap → X c m' σ' → E (.ref e) s'
structure HSX (C : Cx) (sc : Scope) (k : Nat) (b : List Stmt) (T : bN) : Prop where
 run : ∀ (env : Env) (A : Around) (s : Shared) (m : aU) (σ : ag) (Q : Fl → aU → ag → Prop) (X : XT) (P : Flow → Shared → Prop) (E : Value → Shared → Prop),
  EnvOk env sc → AOk C A k → RelG C σ s → FrameRel C env m σ s.heap → FOk C A env σ s.heap → T m σ Q X → sM C env σ s Q P → AftX C env σ s X E → wpAny (model C.prog C.w) A (execs b env) P E s
structure HSX1 (C : Cx) (sc : Scope) (k : Nat) (b : Stmt) (T : bN) : Prop where
 run : ∀ (env : Env) (A : Around) (s : Shared) (m : aU) (σ : ag) (Q : Fl → aU → ag → Prop) (X : XT) (P : Flow → Shared → Prop) (E : Value → Shared → Prop),
  EnvOk env sc → AOk C A k → RelG C σ s → FrameRel C env m σ s.heap → FOk C A env σ s.heap → T m σ Q X → sM C env σ s Q P → AftX C env σ s X E → wpAny (model C.prog C.w) A (exec b env) P E s
section
variable {C : Cx} {sc : Scope} {k : Nat}
noncomputable def xP (T : ST) : bN := fun m σ Q _ => T m σ Q
theorem HSX1.plain {st : Stmt} {T : ST} (h : HS1 C sc k st T) : HSX1 C sc k st (xP T) := ⟨fun env A s m σ Q X P E en ao R F _ q hP _ => h.run env A s m σ Q P E en ao R F q hP⟩
theorem HSX.plain {b : List Stmt} {T : ST} (h : HS C sc k b T) : HSX C sc k b (xP T) := ⟨fun env A s m σ Q X P E en ao R F _ q hP _ => h.run env A s m σ Q P E en ao R F q hP⟩
noncomputable def aV (T U : bN) : bN := fun m σ Q X => T m σ (fun f m₁ σ₁ => match f with
 | .next => U m₁ σ₁ Q X
 | f => Q f m₁ σ₁) X
theorem AftX.later {env : Env} {σ σ₁ : ag} {s s₁ : Shared} {X : XT} {E : Value → Shared → Prop} (h : AftX C env σ s X E) (S : Step (jd env) σ σ₁ s.heap s₁.heap) : AftX C env σ₁ s₁ X E := fun c e m' σ' s' fl R F S' x => h c e m' σ' s' (fl.less S.size) R F (S.trans S') x
theorem HSX.cons {st : Stmt} {b : List Stmt} {T U : bN} (h1 : HSX1 C sc k st T) (h2 : HSX C sc k b U) : HSX C sc k (st :: b) (aV T U) := by
 refine ⟨?_⟩; intro env A s m σ Q X P E en ao R F W q hP hX
 refine wpAny_execs_cons (h1.run env A s m σ _ X _ E en ao R F W q (fun f g m₁ σ₁ s₁ hf R₁ F₁ S₁ q₁ => ?_) hX)
 cases hf with
 | next => exact h2.run env A s₁ m₁ σ₁ Q X P E en ao R₁ F₁ (W.step S₁) q₁ (fun f g m₂ σ₂ s₂ hf R₂ F₂ S₂ q₂ => hP f g m₂ σ₂ s₂ hf R₂ F₂ (S₁.trans S₂) q₂) (AftX.later hX S₁)
 | brk => exact hP _ _ m₁ σ₁ s₁ .brk R₁ F₁ S₁ q₁
 | cont => exact hP _ _ m₁ σ₁ s₁ .cont R₁ F₁ S₁ q₁
 | ret hv => exact hP _ _ m₁ σ₁ s₁ (.ret hv) R₁ F₁ S₁ q₁
noncomputable def sN (B : BT) (T U : bN) : bN := fun m σ Q X => B m σ fun b σ' => if b then T m σ' Q X else U m σ' Q X
theorem HSX1.ite {pos : Pos} {test : Expr} {a b : List Stmt} {B : BT} {T U : bN} (hb : HB C sc k test B) (h1 : HSX C sc k a T) (h2 : HSX C sc k b U) : HSX1 C sc k (.If test a b pos) (sN B T U) := by
 refine ⟨?_⟩; intro env A s m σ Q X P E en ao R F W q hP hX
 refine wpAny_If (hb.run env A s m σ _ _ E en ao R F q fun b σ₁ s₁ R₁ S₁ q₁ => ?_)
 have S := S₁.own (env := env)
 have hP' : sM C env σ₁ s₁ Q P := fun f g m₂ σ₂ s₂ hf R₂ F₂ S₂ q₂ => hP f g m₂ σ₂ s₂ hf R₂ F₂ (S.trans S₂) q₂
 cases b with
 | true => exact h1.run env A s₁ m σ₁ Q X P E en ao R₁ (F.step R S₁) (W.step S) q₁ hP' (AftX.later hX S)
 | false => exact h2.run env A s₁ m σ₁ Q X P E en ao R₁ (F.step R S₁) (W.step S) q₁ hP' (AftX.later hX S)
end
end Mine
end
noncomputable section
set_option tactic.hygienic false
namespace Mine
open PySem
structure Way (C : Cx) (A : Around) (env : Env) (c : String) (e : Addr) (σ₀ : ag) (h₀ : Heap) (m : aU) (σ : ag) (s : Shared) (ok : Option Value → Prop) : Prop where
 fly : Fly C c h₀.objs.size σ s.heap e ok
 rel : RelG C σ s
 frame : FrameRel C env m σ s.heap
 step : Step (jd env) σ₀ σ h₀ s.heap
 fok : FOk C A env σ s.heap
section
variable {C : Cx} {sc : Scope} {k : Nat} {A A' : Around} {env : Env} {c : String} {e : Addr} {σ₀ σ : ag} {h₀ : Heap} {m : aU} {s : Shared} {ok : Option Value → Prop} {M : Model} {E : Value → Shared → Prop}
theorem Way.move {outer : List Env} {h' : Heap} {ok' : Option Value → Prop} (W : Way C A env c e σ₀ h₀ m σ s ok) (hb : ∀ b o, C.hB.get? b = some o → b < h₀.objs.size) (ho : A.frames = some (env :: outer)) (fl : Fly C c h₀.objs.size σ h' e ok') (Mv : Moved h₀.objs.size σ (frs env outer) s.heap h') : Way C A env c e σ₀ h₀ m σ { s with heap := h' } ok' := by
 obtain ⟨outer', h1, h2, h3⟩ := W.fok.frames
 rw [ho] at h1; cases h1
 obtain ⟨d, hS⟩ := uo W.frame W.fok.frame h2
 refine ⟨fl, W.rel.moved Mv d hS hb, W.frame.moved Mv d, W.step.moved Mv d (Nat.le_refl _), ⟨⟨outer, ho, fun y hy => ?_, h3⟩, W.fok.frame⟩⟩
 obtain ⟨k1, L, k2, k3, k4, o, es, ep, k5, k6⟩ := h2 y hy
 obtain ⟨o', k7, k8⟩ := Mv.like d k5 (.inr (.inr fun vs q => by rw [k6] at q; cases q))
 exact ⟨k1, L, k2, k3, k4, o', es, ep, k7, k8.dict k6⟩
theorem Way.note {Q : Unit → Shared → Prop} (W : Way C A env c e σ₀ h₀ m σ s (rY env)) (hk : env.scope.kind = .function) (hb : ∀ b o, C.hB.get? b = some o → b < h₀.objs.size) (hA : A'.frames = A.frames)
  (h : ∀ s', Way C A env c e σ₀ h₀ m σ s' (fun x => x = some (rawInt env.locals)) → Q () s') : wpAny M A' (noteFrame (.ref e) env) Q E s := by
 obtain ⟨outer, h1, h2, h3⟩ := W.fok.frames
 exact zc (hA.trans h1) (qe W.fok.frame hk W.frame h2) W.fok.frame W.step.size (W.rel.freshNone (bw s.heap)) W.fly fun h' fl Mv => h _ (W.move hb h1 fl Mv)
theorem Way.flight {fr : Option Addr} {Q : Unit → Shared → Prop} (W : Way C A env c e σ₀ h₀ m σ s (fun x => x ≠ none)) (hk : env.scope.kind = .function) (hb : ∀ b o, C.hB.get? b = some o → b < h₀.objs.size)
  (h : ∀ s', Way C A env c e σ₀ h₀ m σ s' (fun x => x = some (fr.elim .none fun f => rawInt f)) → Q () s') : wpAny M A' (setFlight (.ref e) fr) Q E s := by
 obtain ⟨outer, h1, h2, h3⟩ := W.fok.frames
 refine vR (S := frs env outer) W.fly (fun b o ho hm vs q => ?_) fun h' fl Mv => h _ (W.move hb h1 fl Mv)
 obtain ⟨es, ep, z⟩ := (uo W.frame W.fok.frame h2).1 b hm o ho
 rw [q] at z; cases z
theorem Way.mono {ok' : Option Value → Prop} (W : Way C A env c e σ₀ h₀ m σ s ok) (k : ∀ x, ok x → ok' x) : Way C A env c e σ₀ h₀ m σ s ok' := ⟨W.fly.mono k, W.rel, W.frame, W.step, W.fok⟩
theorem Way.back (W : Way C A env c e σ₀ h₀ m σ s (fun x => x = some (rawInt env.locals))) (hk : env.scope.kind = .function) (hb : ∀ b o, C.hB.get? b = some o → b < h₀.objs.size)
  (h : ∀ s', Way C A env c e σ₀ h₀ m σ s' (rY env) → E (.ref e) s') : cameBackBy M A env E (.ref e) s := by
 unfold cameBackBy
 obtain ⟨oe, vs, Cl, he, hmg, hcls, hd, h2, h2s, hT⟩ := W.fly.obj
 rcases hT with ⟨h0, _⟩ | ⟨T, oT, ts, fl, h1, _⟩
 ·cases h0
 refine wpAny_bind (wpAny_field he hd h1 ?_)
 rw [if_neg (show ¬ ((Value.ref T == Value.none) = true) from by simp)]
 exact (W.mono fun x hx => by rw [hx]; simp).flight hk hb fun s' W' => h s' (W'.mono fun x hx => by rw [hx, W.fok.frame]; exact .inr (.inr rfl))
noncomputable def dq (g : Tgt) (inv : ag → Prop) (T : bN) : List V → bN
 | [] => fun m σ Q X => inv σ ∧ Q .next m σ
 | v :: r => fun m σ Q X => inv σ ∧ ∃ m', eE g v m = some m' ∧ T m' σ (fun f m₁ σ₁ => match f with
  | .next => dq g inv T r m₁ σ₁ Q X
  | .cont => dq g inv T r m₁ σ₁ Q X
  | .brk => Q .next m₁ σ₁
  | .ret u => Q (.ret u) m₁ σ₁) X
noncomputable def mO (g : Tgt) (I : IT) (T : bN) : bN := fun m σ Q X => I m σ fun items inv σ' => dq g inv T items m σ' Q X
theorem HSX1.for {target iter : Expr} {body : List Stmt} {pos : Pos} {g : Tgt} {I : IT} {T : bN} {loc : Bool} (ht : HT C sc k loc target g) (hi : HI C sc k iter I) (hb : HSX C sc k body T)
  (hf : ∀ env x, foldedSetIterable iter env x = pure x) : HSX1 C sc k (.For target iter body [] pos) (mO g I T) := by
 refine ⟨?_⟩; intro env A s m σ Q X P E en ao R F W q hP hX
 have hbase : ∀ b o, C.hB.get? b = some o → b < s.heap.objs.size := fun b o e => Heap.lt_size (R.base b o e)
 rw [exec_For]
 refine wpAny_bind (wpAny_standAt ?_)
 have start : wpAny (model C.prog C.w) A (eval iter env) (fun x s₁ => wpAny (model C.prog C.w) A (pyIter x) (fun it s₂ => codeAny (model C.prog C.w) A (.forLoop target it body [] env) (fun r s' => match r with | .ok f => P f s' | .error e => cameBackBy (model C.prog C.w) A env E e s') s₂) E s₁) E s := by
  refine hi.run env A s m σ _ _ E en ao R F q fun items inv I St σ₀ s₀ hit st₀ hI hσ₀ R₀ S₀ q₀ => ?_
  have F₀ := F.step R S₀
  obtain ⟨mm, hn, _⟩ := F.ns
  have hIL : I ≠ env.locals := fun e => absurd hn.lt (Nat.not_lt.mpr (e ▸ hI))
  have hIb : C.hB.get? I = Option.none := R.baseNone (aB hI)
  have back : ∀ {σ' : ag} {h' : Heap}, Step (fun b => jd env b ∨ b = I) σ σ' s.heap h' → Step (jd env) σ σ' s.heap h' := fun S =>
   S.mono fun b o e z => z.elim id fun z => absurd (Heap.lt_size e) (Nat.not_lt.mpr (z ▸ hI))
  refine codeAny_forLoop_any
   (ForInv C env σ s.heap I items St fun rest m' σ' => dq g inv T rest m' σ' Q X) ?_ _
   ⟨0, m, σ₀, items, by simp, by simp, rfl, st₀, hσ₀, R₀, F₀, S₀.mono fun _ _ _ z => z.elim, q₀⟩
  rintro n s' ⟨i, m', σ', rest, e1, e2, rfl, st, hσ', R', F', S', q'⟩
  have drew : ∀ {h' : Heap}, Heap.ExtBut I s'.heap h' → s'.heap.objs.size ≤ h'.objs.size → Step (fun b => jd env b ∨ b = I) σ' σ' s'.heap h' := fun hx hsz =>
   .of (fun b o e _ q => hx b o (fun z => q (.inr z)) e) hsz fun _ a b => absurd a b
  cases rest with
  | nil =>
   have hil : i = items.length := by
    have := congrArg List.length e1
    simp at this; omega
   subst hil
   refine a7 (hit.done A σ' s' _ _ ao R' q'.1 st fun h' tk hx hsz => ?_)
   exact wpAny_execs_nil (hP .next .next m' σ' _ .next (cN (tk := tk) R' hx hσ' hIb (hit.live _ _ st)) (ck F' hx (hit.live _ _ st) hIL) (back (S'.trans (drew hx hsz))) q'.2)
  | cons v r =>
   obtain ⟨hinv, m₁, hm₁, q'⟩ := q'
   have hiv : items[i]? = some v := by
    have : (items.drop i)[0]? = some v := by rw [e1]; rfl
    simpa using this
   have hilt : i < items.length := by
    have := congrArg List.length e1
    simp at this; omega
   refine a7 (hit.next A σ' s' i v _ _ ao R' hinv st hiv fun w h₁ tk₁ hv st₁ hx hsz => ?_)
   have R₁ := cN (tk := tk₁) R' hx hσ' hIb (hit.live _ _ st)
   have F₁ := ck F' hx (hit.live _ _ st) hIL
   have S₁ := S'.trans (drew hx hsz)
   refine hit.own A _ (i + 1) target w _ _ st₁ ?_
   refine ht.run env A _ m' m₁ σ' v w _ _ en ao R₁ F₁ hv hm₁ fun s₂ R₂ F₂ S₂L => ?_
   have S₂ : Step (jd env) σ' σ' h₁ s₂.heap := S₂L.mono fun _ _ _ z => z.imp id fun z => z.2
   have S₂' : Step (fun b => jd env b ∨ b = I) σ' σ' h₁ s₂.heap := S₂.mono fun _ _ _ z => .inl z
   have st₂ : St (i + 1) s₂.heap := hit.frame _ _ _ st₁ (fun o e => S₂.keep I o e hσ' (fun z => by
    rcases z with z | ⟨n, z⟩
    ·exact hIL z
    ·obtain ⟨u, ou, hou, hdu⟩ := F₁.cells n I z
     obtain ⟨o', ho', _, hc'⟩ := hit.live _ _ st₁
     have : ou = o' := Option.some.inj (hou.symm.trans ho')
     exact hc' u (this ▸ hdu)) (hit.flds _ _ st₁ o e)) (S₂.tupsO F₁ R₁)
   have S02 := back (S₁.trans S₂')
   refine hb.run env A s₂ m₁ σ' _ X _ _ en ao R₂ F₂ (W.step S02) q' (fun f fl m₃ σ₃ s₃ hf R₃ F₃ S₃ q₃ => ?_) (fun c e m₃ σ₃ s₃ fl R₃ F₃ S₃ x => by
    have WW : Way C A env c e σ s.heap m₃ σ₃ s₃ (rY env) := ⟨fl.less S02.size, R₃, F₃, S02.trans S₃, (W.step S02).step S₃⟩
    exact WW.note en.k hbase rfl fun s₄ W₄ => W₄.back en.k hbase fun s₅ W₅ => hX c e m₃ σ₃ s₅ W₅.fly W₅.rel W₅.frame W₅.step x)
   have S₃' : Step (fun b => jd env b ∨ b = I) σ' σ₃ s₂.heap s₃.heap := S₃.mono fun _ _ _ z => .inl z
   have SS := (S₁.trans S₂').trans S₃'
   have go : dq g inv T r m₃ σ₃ Q X → ∃ k', k' < (v :: r).length + 1 ∧ ForInv C env σ s.heap I items St (fun rest m' σ' => dq g inv T rest m' σ' Q X) k' s₃ := fun q₃ => by
    refine ⟨r.length + 1, Nat.lt_succ_self _, i + 1, m₃, σ₃, r, ?_, hilt, rfl, ?_, ?_, R₃, F₃, SS, q₃⟩
    ·rw [← List.tail_drop, e1]; rfl
    ·refine hit.frame _ _ _ st₂ (fun o e => S₃.keep I o e hσ' (fun z => ?_) (hit.flds _ _ st₂ o e)) (S₃.tupsO F₂ R₂)
     rcases z with z | ⟨n, z⟩
     ·exact hIL z
     ·obtain ⟨u, ou, hou, hdu⟩ := F₂.cells n I z
      obtain ⟨o', ho', _, hc'⟩ := hit.live _ _ st₂
      have : ou = o' := Option.some.inj (hou.symm.trans ho')
      exact hc' u (this ▸ hdu)
    ·cases z : σ₃ I with
     | none => rfl
     | some o =>
      obtain ⟨o', ho', _⟩ := hit.live _ _ st₂
      exact absurd (Heap.lt_size ho') (Nat.not_lt.mpr (S₃.new I hσ' (by rw [z]; simp)))
   cases hf with
   | next => exact go q₃
   | cont => exact go q₃
   | brk => exact hP .next .next m₃ σ₃ s₃ .next R₃ F₃ (back SS) q₃
   | ret hv => exact hP _ _ m₃ σ₃ s₃ (.ret hv) R₃ F₃ (back SS) q₃
 refine wpAny_bind (wpAny_mono start (fun x s₁ h₁ => wpAny_bind (wpAny_of_eq (hf env x) (wpAny_bind (wpAny_standAt (wpAny_bind (wpAny_holding (wpAny_mono h₁ (fun it s₂ h₂ => wpAny_runOwn h₂) fun _ _ h' => h'))))))) fun _ _ h' => h')
end
end Mine
end
noncomputable section
set_option tactic.hygienic false
namespace Mine
open PySem PySem.W PyProof.Rows PySem.Calls
abbrev d6 := List V → ag → (V → ag → Prop) → (String → ag → Prop) → Prop
abbrev AftXc (C : Cx) (σ : ag) (s : Shared) (X : String → ag → Prop) (E : Value → Shared → Prop) : Prop :=
 ∀ c e σ' s', Fly C c s.heap.objs.size σ' s'.heap e (fun x => x = some .none) → RelG C σ' s' → Step no σ σ' s.heap s'.heap → X c σ' → E (.ref e) s'
noncomputable def FnSoundX (C : Cx) (j : Nat) (f : Addr) (spec : d6) : Prop :=
 ∀ (A : Around) (s : Shared) (σ : ag) (vs : List V) (ws : List Value) (Q : V → ag → Prop) (X : String → ag → Prop) (P : Value → Shared → Prop) (E : Value → Shared → Prop),
  AOk C A (j + 1) → (∃ fs, A.frames = some fs ∧ FrsOk C σ s.heap fs) → RelG C σ s → VRels C.aS s.heap vs ws → spec vs σ Q X → uX C σ s Q P → AftXc C σ s X E → codeAny (model C.prog C.w) A (.call (.ref f) ⟨ws, []⟩) (fun r s' => match r with | .ok (.ret v) => P v s' | .ok _ => False | .error e => E e s') s
section
variable {C : Cx}
theorem FnSoundX.mk (O : C.Ok) {f : Addr} {o : Obj} {fd : FuncData} {body : List Stmt} {xs : List String} {sc : Scope} {j : Nat} {spec : d6} {T : bN}
  (ho : C.hB.get? f = some o) (hd : o.data = .func fd) (hcd : C.hB.CodeRec fd.code fd.qualname) (hb : fd.body = .stmts body) (hsc : fd.scope = sc) (hcl : fd.closure = []) (hg : fd.globals = mainGlobals) (hbi : fd.builtins = builtinsNs)
  (hk : sc.kind = .function) (hfr : ∀ p ∈ sc.names, p.2 ≠ .free) (hco : sc.isCoroutine = false) (hgen : sc.isGenerator = false)
  (hbind : ∀ ws : List Value, ws.length = xs.length → bindArgs fd ⟨ws, []⟩ = pure ((xs.map Str.ofString).zip ws))
  (hloc : ∀ x ∈ xs, sc.names.lookup (Str.ofString x) = some .local ∨ sc.names.lookup (Str.ofString x) = some .cell)
  (hT : HSX C sc j body T)
  (hspec : ∀ vs σ Q X, spec vs σ Q X → vs.length = xs.length ∧ T (aG xs vs aN) σ (fun f _ σ' => match f with | .ret v => Q v σ' | .next => Q .none σ' | _ => False) (fun c _ σ' => X c σ')) : FnSoundX C j f spec := by
 intro A s σ vs ws Q X P E ao ⟨fs, hfs, hfo⟩ R hvs hs hP hX
 subst hsc
 obtain ⟨hlen, q⟩ := hspec vs σ Q X hs
 have hlw : ws.length = xs.length := by rw [← hvs.length]; exact hlen
 refine (codeAny_call_cells (fd := fd) (body := body) (binds := (xs.map Str.ofString).zip ws) (by have := ao.depth; omega) (R.base _ _ ho) hd (O.nolimit.keeps R.base) (hcd.keeps R.base) hb (hbind ws hlw) hcl ?_ ?_ hco hgen hk)
 ·intro x hx
  have : x.1 ∈ xs.map Str.ofString := (List.of_mem_zip (a := x.1) (b := x.2) hx).1
  obtain ⟨y, hy, e⟩ := List.mem_map.mp this
  rw [← e]
  refine (hloc y hy).imp id fun z => ⟨z, ?_⟩
  obtain ⟨c, hc⟩ := b9 (x := Str.ofString y) fd.scope.names (s.heap.objs.size + 1) [] (.inl z)
  rw [hc]; rfl
 ·intro s₁ x
  generalize henv : callEnvC fd s.heap.objs.size f = env at x ⊢
  have eS : env.scope = fd.scope := by rw [← henv]; rfl
  have eL : env.locals = s.heap.objs.size := by rw [← henv]; rfl
  have eC : env.cells = cellsFrom (s.heap.objs.size + 1) fd.scope.names [] := by rw [← henv]; rfl
  have en : EnvOk env fd.scope := ⟨eS, hk, by rw [← henv]; exact hg, by rw [← henv]; exact hbi⟩
  obtain ⟨h₁, tk₁, e₁⟩ := x.toInCall.same
  have keep := x.toInCall.keep
  have R₁ : RelG C σ s₁ := by
   rw [e₁]
   exact R.grow (fun b o e => by have := keep b o e; rw [e₁] at this; exact this)
  have hz : s.heap.objs.size ≤ s₁.heap.objs.size := Nat.le_of_lt (by have := x.toInCall.ns.lt; rw [eL] at this; exact this)
  have kt : a0 s.heap s₁.heap := fun b o e _ => keep b o e
  have vars := hJ (C := C) (h := s₁.heap) env.kindOf xs vs ws aN (fun _ => Option.none) (fun _ => Option.none)
   (fun y hy => by unfold Env.kindOf; rw [eS]; exact hloc y hy) (hvs.keep kt) (fun _ _ e => by cases e)
  have lookupC : ∀ n, env.kindOf n = some .cell → ∃ c, env.cells.lookup n = some c := fun n hn => by
   rw [eC]; exact b9 _ _ _ (.inl (by unfold Env.kindOf at hn; rw [eS] at hn; exact hn))
  have lookupF : ∀ n, env.kindOf n = some .cell ∨ env.kindOf n = some .free → ∃ c, env.cells.lookup n = some c := fun n hn => hn.elim (lookupC n) fun z => by
   unfold Env.kindOf at z; rw [eS] at z; exact absurd rfl (hfr _ (mem_of_lookup z))
  have fresh : ∀ c, s.heap.objs.size ≤ c → C.hB.get? c = Option.none := fun c hc => R.baseNone (aB hc)
  have F₁ : FrameRel C env (aG xs vs aN) σ s₁.heap := by
   refine ⟨⟨_, x.toInCall.ns, fun y v e ky => ?_⟩, fun y v e => ?_, fun n c hc => ?_, R.freshNone (aB (Nat.le_of_eq eL.symm)), fresh _ (Nat.le_of_eq eL.symm), fun n c hc => ?_, x.apart, lookupF⟩
   ·rcases vars y v e with ⟨_, w, h1, h2⟩ | ⟨z, _⟩
    ·exact ⟨w, h1, h2⟩
    ·rw [z] at ky; cases ky
   ·rcases vars y v e with ⟨z, _⟩ | ⟨z, w, h1, h2⟩
    ·exact .inl z
    ·obtain ⟨c, hc⟩ := lookupC _ z
     exact .inr ⟨.inl z, c, w, hc, h1 ▸ x.cell _ c hc, h2⟩
   ·exact ⟨_, x.cell n c hc⟩
   ·exact fresh c (Nat.le_of_lt (by have := x.above n c (mem_of_lookup hc); rw [eL] at this; exact this))
  have eF : env.frame = some env.locals := by rw [← henv]; rfl
  have hlt : ∀ y ∈ fs, ∀ L, y.frame = some L → L < s.heap.objs.size := fun y hy L hL => by
   obtain ⟨_, L', h2, _, _, o, _, _, h5, _⟩ := hfo y hy
   rw [hL] at h2; cases h2; exact Heap.lt_size h5
  have W₁ : FOk C (A.deeper env) env σ s₁.heap := by
   refine ⟨⟨fs, Around.frames_deeper hfs, fun y hy => ?_, fun y hy L hL z => ?_⟩, eF⟩
   ·obtain ⟨h1, L, h2, h3, h4, o, es, ep, h5, h6⟩ := hfo y hy
    exact ⟨h1, L, h2, h3, h4, o, es, ep, keep _ _ h5, h6⟩
   ·have := hlt y hy L hL
    rcases z with z | ⟨n', z⟩
    ·rw [z, eL] at this; exact Nat.lt_irrefl _ this
    ·have h9 := x.above n' L (mem_of_lookup z); rw [eL] at h9; exact Nat.lt_irrefl _ (Nat.lt_trans this h9)
  have toS : ∀ {σ' : ag} {h' : Heap}, Step (jd env) σ σ' s₁.heap h' → Step no σ σ' s.heap h' := fun S' =>
   ⟨fun b o e n _ => S'.keepL b o (keep b o e) n (fun z => by
     have hlt := Heap.lt_size e
     rcases z with z | ⟨n', z⟩
     ·rw [z, eL] at hlt; exact Nat.lt_irrefl _ hlt
     ·have := x.above n' b (mem_of_lookup z); rw [eL] at this; exact Nat.lt_irrefl _ (Nat.lt_trans hlt this)),
    Nat.le_trans hz S'.size, fun b n m => Nat.le_trans hz (S'.new b n m)⟩
  refine hT.run env _ s₁ _ σ _ _ _ _ en ⟨by show A.handled = _; exact ao.handled, by show A.depth + 1 + 3 * j + 3 < _; have := ao.depth; omega, by show A.units + 3 + 10 * j + 20 < _; have := ao.units; omega⟩ R₁ F₁ W₁ q (fun fl g m' σ' s' hf R' F' S' q' => ?_) (fun c e m' σ' s' fl R' F' S' x' => ?_)
  rotate_left
  ·have WW : Way C (A.deeper env) env c e σ s₁.heap m' σ' s' (rY env) := ⟨fl, R', F', S', W₁.step S'⟩
   have hbase : ∀ b o, C.hB.get? b = some o → b < s₁.heap.objs.size := fun b o e => Heap.lt_size (R₁.base b o e)
   unfold leaving
   refine wpAny_bind (WW.note en.k hbase rfl fun s₂ W₂ => ?_)
   refine (W₂.mono fun x hx => by rw [hx]; simp).flight en.k hbase fun s₃ W₃ => ?_
   exact hX c e σ' s₃ (W₃.fly.less hz) W₃.rel (toS W₃.step) x'
  have S₀ := toS S'
  cases hf with
  | next => exact hP .none .none σ' s' .none R' S₀ q'
  | ret hv => exact hP _ _ σ' s' hv R' S₀ q'
  | brk => exact q'.elim
  | cont => exact q'.elim
end
end Mine
end
noncomputable section
namespace Mine
open PySem
noncomputable def Dead (b : Addr) (h : Heap) : Prop := h.get? b = none ∧ b < h.objs.size
theorem Dead.update {b a : Addr} {h : Heap} {f : Obj → Obj} {o : Obj} (x : Dead b h) (ha : h.get? a = some o) : Dead b (h.update a f) :=
 ⟨by rw [Heap.get?_update_other _ _ (by rintro rfl; rw [x.1] at ha; cases ha)]; exact x.1, by rw [Heap.size_after_update]; exact x.2⟩
theorem Dead.push {b : Addr} {h : Heap} {o : Obj} (x : Dead b h) : Dead b (h.push o) := by
 refine ⟨?_, by rw [Heap.size_push]; exact Nat.lt_succ_of_lt x.2⟩
 cases e : (h.push o).get? b with
 | none => rfl
 | some o' =>
  obtain ⟨h1, h2⟩ := Heap.get?_some_iff.mp e
  have h3 : h.objs[b]? = some o' := by
   have : (h.push o).objs[b]? = h.objs[b]? := by
    show (h.objs.push o)[b]? = _
    rw [Array.getElem?_push_lt x.2, Array.getElem?_eq_getElem x.2]
   rw [← this]; exact h1
  have := Heap.get?_some_iff.mpr ⟨h3, h2⟩
  rw [x.1] at this; cases this
theorem iU {b : Addr} {M : Model} {Γ : Ctx} {p : Pos} {t : Sem Fin} {fs : List Frame} {s s' : Shared} {e : End} (h : PySem.Runs M Γ p t fs s e s') : Dead b s.heap → Dead b s'.heap := by
 induction h <;> intro d
 all_goals try simp only [Shared.setGen] at *
 all_goals first | exact d | (rename_i ih; exact ih d) | (rename_i ih; exact ih d.push) | (rename_i h1 _ ih; obtain ⟨o, ho⟩ := Option.isSome_iff_exists.mp h1; exact ih (d.update ho)) | (rename_i ih1 ih2; exact ih2 (ih1 d))
theorem pz {b : Addr} {M : Model} {Γ : Ctx} {p : Pos} {g : Nat} {r : Resume} {s s' : Shared} {res : GenResult} (h : Wakes M Γ p g r s res s') (d : Dead b s.heap) : Dead b s'.heap := by
 unfold Wakes at h
 split at h
 ·exact h.elim
 ·split at h
  ·obtain ⟨e₁, s₁, hr, _, _, rfl⟩ := h; exact (iU hr d : Dead b s₁.heap)
  ·rw [h.2]; exact d
  ·rw [h.2]; exact d
 ·obtain ⟨e₁, s₁, hr, _, _, rfl⟩ := h; exact (iU hr d : Dead b s₁.heap)
 ·rw [h.2]; exact d
 ·rw [h.2]; exact d
theorem u5 {α : Type} (M : Model) (Γ : Ctx) (D : Addr → Prop) (t : Sem α) : ∀ (Q : α → Pos → Shared → Prop) (E : Value → Pos → Shared → Prop) (p : Pos) (s : Shared), (∀ b, D b → Dead b s.heap) → Sem.wp M Γ t Q E p s →
  Sem.wp M Γ t (fun a p' s' => (∀ b, D b → Dead b s'.heap) ∧ Q a p' s') (fun e p' s' => (∀ b, D b → Dead b s'.heap) ∧ E e p' s') p s := by
 induction t with
 | pure a | raise a => intro Q E p s hn h; exact ⟨hn, h⟩
 | unsupported | finish | register | yield | fork | await => intro Q E p s _ h; exact h
 | rule _ k ih | «at» _ k ih | point _ k ih | ask k ih | handled _ k ih | stack k ih | thread k ih | loadIfAlive _ k ih | fresh k ih | os _ _ k ih | newGen _ k ih => intro Q E p s hn h; exact ih _ Q E _ _ hn h
 | load a _ k ih => intro Q E p s hn h; obtain ⟨o, ho, h⟩ := h; exact ⟨o, ho, ih o Q E p s hn h⟩
 | update a _ f k ih => intro Q E p s hn h; exact ⟨h.1, ih () Q E p _ (fun b hb => by obtain ⟨o, ho⟩ := Option.isSome_iff_exists.mp h.1; exact (hn b hb).update ho) h.2⟩
 | alloc o k ih => intro Q E p s hn h; exact ih _ Q E p _ (fun b hb => (hn b hb).push) h
 | choose src m k ih => intro Q E p s hn h; exact ⟨h.1, ih _ Q E p _ hn h.2⟩
 | call c hd _ _ k ih => intro Q E p s hn h; obtain ⟨r, s', hr, h⟩ := h; exact ⟨r, s', hr, ih r Q E p s' (fun b hb => iU hr (hn b hb)) h⟩
 | genState g k ih => intro Q E p s hn h; obtain ⟨st, hs, h⟩ := h; exact ⟨st, hs, ih _ Q E p s hn h⟩
 | resume g r _ k ih => intro Q E p s hn h; obtain ⟨res, s', hw, h⟩ := h; exact ⟨res, s', hw, ih res Q E p s' (fun b hb => pz hw (hn b hb)) h⟩
theorem rq {α : Type} {M : Model} {A : Around} {s : Shared} {t : Sem α} {Q : α → Shared → Prop} {E : Value → Shared → Prop}
  (h : wpAny M A t (fun a s' => (∀ b, Dead b s.heap → Dead b s'.heap) → Q a s') (fun e s' => (∀ b, Dead b s.heap → Dead b s'.heap) → E e s') s) : wpAny M A t Q E s :=
 fun Γ p hΓ => Sem.wp_mono M Γ t (fun _ _ _ x => x.2 x.1) (fun _ _ _ x => x.2 x.1) p s (u5 M Γ (fun b => Dead b s.heap) t _ _ p s (fun _ h => h) (h Γ p hΓ))
end Mine
end
noncomputable section
set_option tactic.hygienic false
namespace Mine
open PySem PySem.W PyProof.Rows PySem.Calls
noncomputable def c8 : List Value := [.type "ValueError", .type "Exception", .type "BaseException", .type "object"]
noncomputable def AB (C : Cx) (c : String) (Cl : Addr) : Prop := OwnCls (Str.ofString c) Cl c8 "ValueError.__new__" C.mg C.hB
section
variable {C : Cx} {sc : Scope} {k : Nat}
noncomputable def d7 (c : String) : bN := fun m σ _ X => X c m σ
theorem HSX1.raise (O : C.Ok) (hz : C.held = Option.none) {c : String} {Cl : Addr} (K : AB C c Cl) {x : Str} {n : Nat} {np ap cpos pos : Pos} (hn : sc.names.lookup (Str.ofString c) = some .globalImplicit) (hdb : (Str.ofString c == ("__debug__" : Str)) = false) :
  HSX1 C sc k (.Raise (some (.Call (.Name (Str.ofString c) np) [.Constant (.str x) n ap] [] cpos)) Option.none pos) (d7 c) := by
 refine ⟨?_⟩; intro env A s m σ Q X P E en ao R F W q hP hX
 have OK : OwnCls (Str.ofString c) Cl c8 "ValueError.__new__" C.mg s.heap := K.keeps R.base
 obtain ⟨tl, N, nm, qn, bs, hdct, sn, sub, ab, col, dd, k0, k1, k2, k3, k5, mN, hC, hN, hni, T⟩ := OK.obj
 refine rq ?_
 refine wpAny_Raise_call_subT (C := Cl) (nm := nm) (q := qn) (N := N) (bs := bs) (bm := tl) (hdct := hdct) (sn := sn) (sub := sub) (ab := ab) (col := col) (dd := dd) (k0 := k0) (k1 := k1) (k2 := k2) (k3 := k3) (k5 := k5)
  PySem.F.excBase_ValueError (mN := mN) (T.hasType PySem.F.excBase_ValueError.hasBase) (ao.none hz) rfl hni
  (Calls.Name_function_global en.k (en.of hn) (Calls.loadGlobal_global (mg := C.mg) (by rw [en.globals]; exact O.g.keeps R.base) K.bound ⟨rfl, ?_⟩) hdb)
 refine aY rfl ?_
 show wpAny _ A (spliced ((false, eval (.Constant (.str x) n ap) env) :: backTo cpos (starEach [] env))) _ _ s
 refine Calls.spliced_cons (Calls.Constant_str (Calls.spliced_nil ⟨rfl, by rw [sizeLine_eq]; show 1 ≤ _; decide, hC, hN, T, fun h' e hm hdead => ?_⟩))
 obtain ⟨t, he, _, _⟩ := hm.there
 have hge : s.heap.objs.size ≤ e := by
  rcases Nat.lt_or_ge e s.heap.objs.size with z | z
  ·have := (hdead e ⟨hm.new, z⟩).1
   have he' : h'.get? e = _ := he
   rw [he'] at this; cases this
  ·exact z
 have hsz : s.heap.objs.size ≤ h'.objs.size := Nat.le_trans hge (Nat.le_of_lt (Heap.lt_size he))
 have hkeep : ∀ b o, s.heap.get? b = some o → h'.get? b = some o := hm.keeps
 refine hX c e m σ _ ⟨⟨_, _, Cl, he, K.bound, rfl, rfl, rfl, by show 2 < 6; decide, .inl ⟨.inl rfl, rfl⟩⟩, hge, R.freshNone hm.new⟩ (R.grow hkeep) (F.grow hkeep) (Step.grow hkeep hsz) q
abbrev lH := aU → ag → (V → ag → Prop) → (String → ag → Prop) → Prop
structure HEX (C : Cx) (sc : Scope) (k : Nat) (e : Expr) (T : lH) : Prop where
 run : ∀ (env : Env) (A : Around) (s : Shared) (m : aU) (σ : ag) (Q : V → ag → Prop) (X : String → ag → Prop) (P : Value → Shared → Prop) (E : Value → Shared → Prop),
  EnvOk env sc → AOk C A k → RelG C σ s → FrameRel C env m σ s.heap → FOk C A env σ s.heap → T m σ Q X →
  (∀ v w σ' s', VRel C.aS s'.heap v w → RelG C σ' s' → Step no σ σ' s.heap s'.heap → Q v σ' → P w s') → AftXc C σ s X E →
  wpAny (model C.prog C.w) A (eval e env) P E s
theorem FOk.fs {A : Around} {env : Env} {m : aU} {σ : ag} {s : Shared} (W : FOk C A env σ s.heap) (F : FrameRel C env m σ s.heap) (hk : env.scope.kind = .function) : ∃ fs, A.frames = some fs ∧ FrsOk C σ s.heap fs := by
 obtain ⟨outer, h1, h2, h3⟩ := W.frames
 refine ⟨_, h1, fun y hy => ?_⟩
 rcases List.mem_cons.mp hy with rfl | hy
 ·obtain ⟨mm, ⟨oL, es, ep, hoL, hdL, _⟩, _⟩ := F.ns
  exact ⟨by rw [hk]; decide, _, W.frame, F.baseL, F.sepL, oL, es, ep, hoL, hdL⟩
 ·exact h2 y hy
noncomputable def FnAtX (C : Cx) (j : Nat) (f : String) (spec : d6) : Prop :=
 ∃ a o fd, C.mg (Str.ofString f) = some (.ref a) ∧ C.hB.get? a = some o ∧ o.data = .func fd ∧ FnSoundX C j a spec
noncomputable def hZ (spec : d6) (L : LT) : lH := fun m σ Q X => L m σ fun vs σ' => spec vs σ' Q X
theorem HEX.callAt {p : Program} (G : Gl C p) {f : String} {np pos : Pos} {es : List Expr} {L : LT} {spec : d6} {j : Nat} (hf : FnAtX C j f spec) (hj : j < k)
  (hn : sc.names.lookup (Str.ofString f) = some .globalImplicit) (hdb : (Str.ofString f == ("__debug__" : Str)) = false)
  (hl : HL C sc k es L) (hp : aD es = true) : HEX C sc k (.Call (.Name (Str.ofString f) np) es [] pos) (hZ spec L) := by
 obtain ⟨a, o, fd, hg, ho, hd, hf⟩ := hf
 refine ⟨?_⟩; intro env A s m σ Q X P E en ao R F W q hP hX
 refine wpAny_Call_NameR (Calls.Name_function_global en.k (en.of hn) (Calls.loadGlobal_global (mg := C.mg) (by rw [en.globals]; exact G.ok.g.keeps R.base) hg ?_) hdb)
 refine Calls.callWith_function (o := o) (fd := fd) (aY hp (hl.run env A s m σ pos _ _ E en ao R F q fun vs ws σ₁ s₁ hv R₁ S₁ q₁ => ⟨⟨R₁.base _ _ ho, hd⟩, ?_⟩))
 have W₁ := W.step (S₁.own (env := env))
 exact wpAny_call (hf A s₁ σ₁ vs ws Q X P E (ao.le hj) (W₁.fs (F.step R S₁) en.k) R₁ hv q₁ (fun v w σ' s' hv' R' S' q' => hP v w σ' s' hv' R' (S₁.trans S') q') fun c e σ' s' fl R' S' x => hX c e σ' s' (fl.less S₁.size) R' (S₁.trans S') x)
theorem AftXc.of {env : Env} {m : aU} {σ : ag} {s : Shared} {X : XT} {E : Value → Shared → Prop} (R : RelG C σ s) (F : FrameRel C env m σ s.heap) (hX : AftX C env σ s X E) : AftXc C σ s (fun c σ' => X c m σ') E :=
 fun c e σ' s' fl R' S' x => hX c e m σ' s' (fl.mono fun _ h => .inr (.inl h)) R' (F.step R S') S'.own x
noncomputable def ro (x : String) (T : lH) : bN := fun m σ Q X => T m σ (fun v σ' => Q .next (put m x v) σ') fun c σ' => X c m σ'
theorem HSX1.set {x : String} {p pos : Pos} {value : Expr} {T : lH} (hx : AC sc x) (he : HEX C sc k value T) (hs : ∀ env, EnvOk env sc → swapsWith value (some (.Name (Str.ofString x) p)) pos.line env = pure false) : HSX1 C sc k (.Assign [.Name (Str.ofString x) p] value pos) (ro x T) := by
 refine ⟨?_⟩; intro env A s m σ Q X P E en ao R F W q hP hX
 refine wpAny_Assign_Name (he.run env A s m σ _ _ _ E en ao R F W q (fun v w σ₁ s₁ hv R₁ S₁ q₁ => ?_) (AftXc.of R F hX)) (hs env en)
 exact wz en R₁ (F.step R S₁) hx hv fun s₂ R₂ F₂ S₂ => hP .next .next _ σ₁ s₂ .next R₂ F₂ ((S₁.own).trans S₂) q₁
noncomputable def wN (T : lH) : bN := fun m σ Q X => T m σ (fun v σ' => Q (.ret v) m σ') fun c σ' => X c m σ'
theorem HSX1.ret {pos : Pos} {value : Expr} {T : lH} (he : HEX C sc k value T) : HSX1 C sc k (.Return (some value) pos) (wN T) := by
 refine ⟨?_⟩; intro env A s m σ Q X P E en ao R F W q hP hX
 exact wpAny_Return_some (he.run env A s m σ _ _ _ E en ao R F W q (fun v w σ₁ s₁ hv R₁ S₁ q₁ => hP (.ret v) (.ret w) m σ₁ s₁ (.ret hv) R₁ (F.step R S₁) S₁.own q₁) (AftXc.of R F hX))
end
end Mine
end
noncomputable section
set_option tactic.hygienic false
set_option maxRecDepth 100000
namespace Mine
open PySem PySem.W PyProof.Rows PySem.Calls
noncomputable def gg : List Str := ["__init__", "__getattribute__", "__getattr__", "__class__"]
inductive OT (h : Heap) : List Value → Prop
 | base : OT h c8
 | own {A : Addr} {c0 : Value} {dd : Option Addr} {cd : ClassData} {sl : Array (Option Value)} {mA : Str → Option Value} {tl : List Value} :
   h.get? A = some { cls := c0, dict := dd, data := .cls cd, slots := sl } → h.Ns cd.ns mA → (∀ n ∈ gg, mA n = none) → OT h tl → OT h (.ref A :: tl)
theorem OT.keeps {h h' : Heap} {l : List Value} (T : OT h l) (k : ∀ b o, h.get? b = some o → h'.get? b = some o) : OT h' l := by
 induction T with
 | base => exact .base
 | own h1 h2 h3 _ ih => exact .own (k _ _ h1) (h2.keeps k) h3 ih
theorem OT.tail {h : Heap} {l : List Value} (T : OT h l) : OwnTail h c8 l := by
 induction T with
 | base => exact .base
 | own h1 h2 h3 _ ih => exact .own h1 h2 (h3 _ (.head _)) ih
inductive XC (h : Heap) (Cl : Addr) (bm : List Value) : Prop
 | mk (N : Addr) (nm q : Str) (bs : List Value) (hdct : Bool) (sn : List Str) (sub : List Value) (ab : Bool) (col : Option Bool) (dd : Option Addr) (k0 k1 k2 k3 k5 : Option Value) (mN : Str → Option Value)
   (h1 : h.get? Cl = some (excClassObj nm q Cl N bs bm hdct sn sub ab col dd k0 k1 k2 k3 k5 "ValueError.__new__")) (h2 : h.Ns N mN) (h3 : ∀ n ∈ gg, mN n = none) (h4 : OT h bm) : XC h Cl bm
theorem XC.keeps {h h' : Heap} {Cl : Addr} {bm : List Value} (X : XC h Cl bm) (k : ∀ b o, h.get? b = some o → h'.get? b = some o) : XC h' Cl bm := by
 obtain ⟨N, nm, q, bs, hdct, sn, sub, ab, col, dd, k0, k1, k2, k3, k5, mN, h1, h2, h3, h4⟩ := X
 exact ⟨N, nm, q, bs, hdct, sn, sub, ab, col, dd, k0, k1, k2, k3, k5, mN, k _ _ h1, h2.keeps k, h3, h4.keeps k⟩
section
variable {prog : Program} {w : World} {A : Around} {E : Value → Shared → Prop} {s : Shared} {Cl a : Addr} {bm : List Value} {o : Obj}
theorem u8 {base : Value} {Q : Bool → Shared → Prop} {M : Model} (X : XC s.heap Cl bm) (hq : Q ((Value.ref Cl :: bm).contains base) s) : wpAny M A (isSubtype (.ref Cl) base) Q E s := by
 obtain ⟨N, nm, q, bs, hdct, sn, sub, ab, col, dd, k0, k1, k2, k3, k5, mN, h1, h2, h3, h4⟩ := X
 obtain ⟨h, g, d, t, os⟩ := s
 exact wpAny_isSubtype_exc h1 hq
theorem OT.obj {h : Heap} {l : List Value} (T : OT h l) : l.contains (.type "object") = true ∧ l.contains (.type "BaseException") = true := by
 induction T with
 | base => decide
 | own _ _ _ _ ih => rw [List.contains_cons, List.contains_cons, ih.1, ih.2]; simp
theorem XC.obj {h : Heap} (X : XC h Cl bm) : bm.contains (.type "object") = true ∧ bm.contains (.type "BaseException") = true := by
 obtain ⟨N, nm, q, bs, hdct, sn, sub, ab, col, dd, k0, k1, k2, k3, k5, mN, h1, h2, h3, h4⟩ := X
 exact h4.obj
end
end Mine
end
noncomputable section
set_option tactic.hygienic false
namespace Mine
open PySem PySem.W PyProof.Rows PySem.Calls
noncomputable def iu : Obj := { cls := .none, dict := none, data := .freed }
noncomputable def ce (h : Heap) (e : Addr) (o : Obj) : Heap := if e < h.objs.size then ⟨h.objs.setIfInBounds e o, h.life⟩ else ⟨(h.objs ++ Array.replicate (e - h.objs.size) iu).push o, h.life⟩
theorem cj {h : Heap} {e : Addr} {o : Obj} (hz : h.get? e = none) (ho : o.isFreed = false) (b : Addr) : (ce h e o).get? b = if b = e then some o else h.get? b := by
 have at_ : (ce h e o).objs[e]? = some o := by
  unfold ce
  split
  ·rename_i q
   show (h.objs.setIfInBounds e o)[e]? = some o
   rw [Array.getElem?_setIfInBounds_self_of_lt q]
  ·rename_i q
   have sz : (h.objs ++ Array.replicate (e - h.objs.size) iu).size = e := by
    rw [Array.size_append, Array.size_replicate]
    exact Nat.add_sub_cancel' (Nat.le_of_not_lt q)
   show ((h.objs ++ Array.replicate (e - h.objs.size) iu).push o)[e]? = some o
   rw [Array.getElem?_push, sz, if_pos rfl]
 have other : b ≠ e → ∀ x, x.isFreed = false → ((ce h e o).objs[b]? = some x ↔ h.objs[b]? = some x) := by
  intro hb x hf
  unfold ce
  split
  ·show (h.objs.setIfInBounds e o)[b]? = some x ↔ _
   rw [Array.getElem?_setIfInBounds_ne (Ne.symm hb)]
  ·rename_i q
   have sz : (h.objs ++ Array.replicate (e - h.objs.size) iu).size = e := by
    rw [Array.size_append, Array.size_replicate]
    exact Nat.add_sub_cancel' (Nat.le_of_not_lt q)
   show ((h.objs ++ Array.replicate (e - h.objs.size) iu).push o)[b]? = some x ↔ _
   rw [Array.getElem?_push, sz, if_neg hb, Array.getElem?_append]
   split
   ·exact Iff.rfl
   ·rename_i q2
    rw [Array.getElem?_replicate, Array.getElem?_eq_none (Nat.le_of_not_lt q2)]
    split
    ·exact ⟨fun z => (by cases z; cases hf), fun z => (by cases z)⟩
    ·exact Iff.rfl
 by_cases hb : b = e
 ·rw [if_pos hb, hb]
  exact Heap.get?_some_iff.mpr ⟨at_, ho⟩
 ·rw [if_neg hb]
  cases hg : h.get? b with
  | some x =>
   obtain ⟨h1, h2⟩ := Heap.get?_some_iff.mp hg
   exact Heap.get?_some_iff.mpr ⟨(other hb x h2).mpr h1, h2⟩
  | none =>
   cases hq : (ce h e o).get? b with
   | none => rfl
   | some x =>
    obtain ⟨h1, h2⟩ := Heap.get?_some_iff.mp hq
    have := Heap.get?_some_iff.mpr ⟨(other hb x h2).mp h1, h2⟩
    rw [hg] at this; cases this
noncomputable def Cx.hold (C : Cx) (e : Addr) (o : Obj) : Cx := { C with s₁ := { C.s₁ with heap := ce C.s₁.heap e o }, held := some e }
section
variable {C : Cx} {e : Addr} {o : Obj} {σ : ag} {s : Shared} {env : Env} {m : aU} {p : Program} {vs : Array Value}
theorem bY (hz : C.hB.get? e = none) (ho : o.isFreed = false) : ∀ b x, C.hB.get? b = some x → (C.hold e o).hB.get? b = some x := fun b x h => by
 show (ce C.hB e o).get? b = some x
 rw [cj hz ho, if_neg (by rintro rfl; rw [hz] at h; cases h)]; exact h
theorem vQ (hz : C.hB.get? e = none) (ho : o.isFreed = false) : (C.hold e o).hB.get? e = some o := by
 show (ce C.hB e o).get? e = some o
 rw [cj hz ho, if_pos rfl]
theorem RelG.hold (R : RelG C σ s) (hz : C.hB.get? e = none) (ho : o.isFreed = false) (he : s.heap.get? e = some o) (hs : σ e = none) : RelG (C.hold e o) σ s := by
 refine ⟨let ⟨h, tk, d, q⟩ := R.rest; ⟨h, tk, d, by rw [q]; rfl⟩, fun b x h => ?_, fun a x h => ?_, fun a h => ?_⟩
 ·have h' : (ce C.hB e o).get? b = some x := h
  rw [cj hz ho] at h'
  split at h'
  ·rename_i q; cases h'; rw [q]; exact he
  ·exact R.base b x h'
 ·have := R.view a x h
  cases x <;> exact this
 ·show (ce C.hB e o).get? a = none
  rw [cj hz ho, if_neg (by rintro rfl; exact h hs)]; exact R.apart a h
theorem RelG.drop (R : RelG (C.hold e o) σ s) (hz : C.hB.get? e = none) (ho : o.isFreed = false) : RelG C σ s := by
 refine ⟨let ⟨h, tk, d, q⟩ := R.rest; ⟨h, tk, d, by rw [q]; rfl⟩, fun b x h => R.base b x (bY hz ho b x h), fun a x h => ?_, fun a h => ?_⟩
 ·have := R.view a x h
  cases x <;> exact this
 ·have : (ce C.hB e o).get? a = none := R.apart a h
  rw [cj hz ho] at this
  split at this
  ·cases this
  ·exact this
theorem FrameRel.hold (F : FrameRel C env m σ s.heap) (hz : C.hB.get? e = none) (ho : o.isFreed = false) (he : s.heap.get? e = some o) (hd : o.data = .fields vs) : FrameRel (C.hold e o) env m σ s.heap := by
 refine ⟨F.ns, F.cel, F.cells, F.sepL, ?_, fun n c hc => ?_, F.dist, F.has⟩
 ·show (ce C.hB e o).get? env.locals = none
  rw [cj hz ho, if_neg ?_]
  ·exact F.baseL
  ·rintro q
   obtain ⟨mm, ⟨oL, es, ep, hoL, hdL, _⟩, _⟩ := F.ns
   rw [q, he] at hoL; cases hoL; rw [hd] at hdL; cases hdL
 ·show (ce C.hB e o).get? c = none
  rw [cj hz ho, if_neg ?_]
  ·exact F.baseC n c hc
  ·rintro q
   obtain ⟨v, oc, hoc, hdc⟩ := F.cells n c hc
   rw [q, he] at hoc; cases hoc; rw [hd] at hdc; cases hdc
theorem FrameRel.drop (F : FrameRel (C.hold e o) env m σ s.heap) (hz : C.hB.get? e = none) (ho : o.isFreed = false) : FrameRel C env m σ s.heap := by
 have dr : ∀ b, (C.hold e o).hB.get? b = none → C.hB.get? b = none := fun b h => by
  cases q : C.hB.get? b with
  | none => rfl
  | some x => rw [bY hz ho b x q] at h; cases h
 exact ⟨F.ns, F.cel, F.cells, F.sepL, dr _ F.baseL, fun n c hc => dr _ (F.baseC n c hc), F.dist, F.has⟩
theorem Cx.Ok.hold (O : C.Ok) (hz : C.hB.get? e = none) (ho : o.isFreed = false) (hd : o.data = .fields vs) (h2 : vs[2]? = some .none) : (C.hold e o).Ok where
 g := O.g.keeps (bY hz ho)
 b := O.b.keeps (bY hz ho)
 nolimit := O.nolimit.keeps (bY hz ho)
 mods := let ⟨x, hx⟩ := O.mods; ⟨x, bY hz ho _ _ hx⟩
 few := O.few
 heldOk := fun e' h => by
  have : e' = e := by
   have h' : some e = some e' := h
   cases h'; rfl
  subst this
  exact ⟨o, vs, vQ hz ho, hd, h2⟩
 script := let ⟨ws, h1, h2, h3⟩ := O.script; ⟨ws, h1.at fun x hx => bY hz ho _ _ hx, h2, h3⟩
theorem Gl.hold (G : Gl C p) (hz : C.hB.get? e = none) (ho : o.isFreed = false) (hd : o.data = .fields vs) (h2 : vs[2]? = some .none) : Gl (C.hold e o) p where
 ok := G.ok.hold hz ho hd h2
 mb := G.mb
 free := G.free
 fn := fun d hd' => by
  obtain ⟨a, o', pm, code, doc, h1, h2', h3, h4⟩ := G.fn d hd'
  exact ⟨a, o', pm, code, doc, h1, bY hz ho _ _ h2', h3, h4.keeps (bY hz ho)⟩
end
end Mine
end
noncomputable section
set_option tactic.hygienic false
set_option maxRecDepth 100000
namespace Mine
open PySem PySem.W PyProof.Rows PySem.Calls
section
variable {prog : Program} {w : World} {A : Around} {E : Value → Shared → Prop} {s : Shared} {Cl H a : Addr} {bm bmH : List Value} {o : Obj} {M : Model}
theorem om {Q : Bool → Shared → Prop} (X : XC s.heap Cl bm) (XH : XC s.heap H bmH) (hx : s.heap.get? a = some o) (hc : o.cls = .ref Cl) (hq : Q ((Value.ref Cl :: bm).contains (.ref H)) s) :
  wpAny M A (excMatches (.ref a) (.ref H)) Q E s := by
 have hcB : (Value.ref H :: bmH).contains (.type "BaseException") = true := by rw [List.contains_cons, XH.obj.2, Bool.or_true]
 obtain ⟨N, nm, q, bs, hdct, sn, sub, ab, col, dd, k0, k1, k2, k3, k5, mN, h1, h2, h3, h4⟩ := id XH
 have f := tc_notTuple
 obtain ⟨h, g, d, t, os⟩ := s
 dsimp only at X XH hx h1
 unfold excMatches
 repeat (first | (with_reducible refine wpAny_loadPart_at hx ?_; rw [hc]) | with_reducible refine wpAny_loadPart_at h1 ?_ | (with_reducible refine wpAny_isSubtype_exc h1 ?_; rw [hcB]) | (with_reducible refine u8 (s := ⟨h, g, d, t, os⟩) X ?_) | wp_step)
 cases hb : (Value.ref Cl :: bm).contains (.ref H) <;> (rw [hb] at hq; wp_walk; exact hq)
end
noncomputable def cut (m : aU) (x : String) : aU := fun y => if y = x then Option.none else m y
section
variable {C : Cx} {sc : Scope} {k : Nat}
end
end Mine
end
noncomputable section
set_option tactic.hygienic false
set_option maxRecDepth 100000
namespace Mine
open PySem PySem.W PyProof.Rows PySem.Calls
section
variable {prog : Program} {w : World} {A : Around} {E : Value → Shared → Prop} {s : Shared} {Cl H a : Addr} {bm bmH : List Value} {o : Obj}
end
section
variable {C : Cx} {sc : Scope} {k : Nat} {p : Program}
theorem FnAtX.mk (G : Gl C p) (i n : Nat) {f : String} {xs : List String} {j : Nat} {spec : d6} {T : bN}
  (hm : (recsOf p)[i]? = some ⟨Str.ofString f, mZ p n, bv p n, aP p n, wF p n⟩)
  (hk : (aP p n).kind = .function) (hfr : ((aP p n).names.all fun q => q.2 != .free) = true) (hco : (aP p n).isCoroutine = false) (hgen : (aP p n).isGenerator = false)
  (hbind : ∀ (ws : List Value) (pm code doc : Value), ws.length = xs.length → bindArgs (docDef (Str.ofString f) (mZ p n) (bv p n) (aP p n) pm code doc) ⟨ws, []⟩ = pure ((xs.map Str.ofString).zip ws))
  (hloc : (xs.all fun x => (aP p n).names.lookup (Str.ofString x) == some .local || (aP p n).names.lookup (Str.ofString x) == some .cell) = true)
  (hT : HSX C (aP p n) j (bv p n) T)
  (hspec : ∀ vs σ Q X, spec vs σ Q X → vs.length = xs.length ∧ T (aG xs vs aN) σ (fin Q) (fun c _ σ' => X c σ')) : FnAtX C j f spec := by
 obtain ⟨a, o, pm, code, doc, h1, h2, h3, h4⟩ := G.fn _ (List.mem_of_getElem? hm)
 refine ⟨a, o, _, h1, h2, h3, FnSoundX.mk G.ok (xs := xs) h2 h3 h4 rfl rfl rfl rfl rfl hk ?_ hco hgen (fun ws hw => hbind ws pm code doc hw) ?_ hT hspec⟩
 ·intro q hq
  have := List.all_eq_true.mp hfr q hq
  simpa using this
 ·intro x hx
  have := List.all_eq_true.mp hloc x hx
  simp only [Bool.or_eq_true, beq_iff_eq] at this
  exact this
noncomputable def sZ : d6 := fun vs σ Q _ => vs = [.script] ∧ (∀ a, σ a = Option.none) ∧ ∀ σ', Q (.bool true) σ'
theorem sb (hz : C.held = Option.none) {f : Addr} {j : Nat} {r : OpenLaw} {args : List WData} {cl : Str → Option Addr} {mean : ExcName → Option Value} (hf : FnSoundX C j f sZ) (hj : j ≤ 100) (hg : C.s₁.gens = #[])
  (hn : ∀ cls, r.row.claim.raises args cls = false) (hp : r.row.claim.post args (.bool true) args = true) :
  codeAny (model C.prog C.w) callerA (.call (.ref f) ⟨[.ref C.aS], []⟩) (GoodWG r.row.claim cl mean args C.s₁) C.s₁ := by
 refine codeAny_mono (hf callerA C.s₁ (fun _ => Option.none) [.script] [.ref C.aS] (fun v σ => v = .bool true) (fun _ _ => False) (fun w s' => w = .bool true ∧ ∃ σ', RelG C σ' s') (fun _ _ => False) ⟨by rw [hz]; rfl, ?_, ?_⟩ ⟨[], rfl, fun y hy => by cases hy⟩ ⟨⟨_, _, _, rfl⟩, fun _ _ e => e, fun _ _ e => by (cases e), fun _ e => absurd rfl e⟩ (.cons .script .nil) ⟨rfl, fun _ => rfl, fun _ => rfl⟩ ?_ (fun _ _ _ _ _ _ _ h => h)) ?_
 ·show 1 + claimMargin + 3 * (j + 1) + 3 < recursionLimit
  have : claimMargin = 300 := rfl
  have : recursionLimit = 1000 := rfl
  omega
 ·show 4 + 10 * (j + 1) + 20 < cLine
  unfold cLine
  exact oj fun hg => lN [j] 0xa04241a844084004d583084641048a rfl hj hg
 ·intro v w σ' s' hv R' S' q
  subst q
  cases hv with | bool b => exact ⟨rfl, σ', R'⟩
 ·intro res s' h
  cases res with
  | error e => exact h.elim
  | ok fl =>
   cases fl with
   | ret v =>
    obtain ⟨rfl, σ', R'⟩ := h
    obtain ⟨h₁, tk, d₁, e⟩ := R'.rest
    refine GoodW.toG ⟨.inl ⟨_, .bool true, [], rfl, hn, .bool true, hp, fun _ => ⟨List.nodup_nil, fun a h => by cases h⟩⟩, R'.base, ?_, ?_⟩
    ·rw [e]
    ·rw [e]; exact hg
   | _ => exact h.elim
end
end Mine
end
noncomputable section
set_option tactic.hygienic false
namespace Mine
open PySem PySem.W PyProof.Rows PySem.Calls
section
variable {C : Cx} {sc : Scope} {k : Nat}
end
noncomputable def vr (K : Frag) : List Value → Bool
 | [] => false
 | v :: r => (v :: r) == c8 || match v with
  | .ref A => (match K.lookup A with
   | some ⟨_, _, .cls cd, _⟩ => nsOkIn K cd.ns && gg.all (fun n => nsIn K cd.ns n == some none) && vr K r
   | _ => false)
  | _ => false
theorem og {K : Frag} {h : Heap} (X : K.In h) : ∀ {l : List Value}, vr K l = true → OT h l
 | [], e => by cases e
 | v :: r, e => by
  unfold vr at e
  rcases Bool.or_eq_true_iff.mp e with q | q
  ·rw [beq_iff_eq.mp q]; exact .base
  ·split at q
   ·split at q
    ·rename_i ho
     simp only [Bool.and_eq_true] at q
     refine .own (X _ _ ho) (.of_isNs (isNs_of_in X q.1.1)) (fun n hn => nsMap_none_of_in X q.1.1 ?_) (og X q.2)
     exact beq_iff_eq.mp (List.all_eq_true.mp q.1.2 n hn)
    ·cases q
   ·cases q
noncomputable def uZ (K : Frag) (C : Addr) (bm : List Value) : Bool := match K.lookup C with
 | some o => o.cls == .type "type" && (o.slots[4]? == some (some (.builtin "ValueError.__new__")) && o.slots.size == 6) && match o.data with
  | .cls cd => cd.mro == .ref C :: bm && !cd.hasDel && vr K bm && nsOkIn K cd.ns && gg.all (fun n => nsIn K cd.ns n == some none)
  | _ => false
 | none => false
theorem rE {sl : Array (Option Value)} {v : Option Value} (h4 : sl[4]? = some v) (h6 : sl.size = 6) : ∃ k0 k1 k2 k3 k5, sl = #[k0, k1, k2, k3, v, k5] := by
 obtain ⟨l⟩ := sl
 simp only [List.size_toArray] at h6
 rcases l with _ | ⟨k0, _ | ⟨k1, _ | ⟨k2, _ | ⟨k3, _ | ⟨k4, _ | ⟨k5, _ | ⟨k6, r⟩⟩⟩⟩⟩⟩⟩ <;> first | cases h6 | skip
 simp at h4
 subst h4
 exact ⟨k0, k1, k2, k3, k5, rfl⟩
theorem nN {K : Frag} {h : Heap} {C : Addr} {bm : List Value} (X : K.In h) (q : uZ K C bm = true) : XC h C bm := by
 unfold uZ at q
 cases ho : K.lookup C with
 | none => rw [ho] at q; cases q
 | some o =>
  rw [ho] at q
  obtain ⟨oc, od, da, sl⟩ := o
  cases da with
  | cls cd =>
   simp only [Bool.and_eq_true, beq_iff_eq, Bool.not_eq_true'] at q
   obtain ⟨⟨rfl, h4, h6⟩, ⟨⟨⟨hm, hdel⟩, ht⟩, hok⟩, hni⟩ := q
   obtain ⟨k0, k1, k2, k3, k5, rfl⟩ := rE h4 h6
   obtain ⟨nm, bs, mro, ns, qn, hd, sn, sub, ab, col, AR⟩ := cd
   dsimp only at hm hdel hok hni
   subst hm hdel
   exact ⟨ns, nm, qn, bs, hd, sn, sub, ab, col, od, k0, k1, k2, k3, k5, _, X _ _ ho, .of_isNs (isNs_of_in X hok), fun n hn => nsMap_none_of_in X hok (beq_iff_eq.mp (List.all_eq_true.mp hni n hn)), og X ht⟩
  | _ => simp at q
theorem XC.own {h : Heap} {Cl : Addr} {bm : List Value} {mg : Str → Option Value} {x : Str} (X : XC h Cl bm) (hg : mg x = some (.ref Cl)) : OwnCls x Cl c8 "ValueError.__new__" mg h := by
 obtain ⟨N, nm, q, bs, hdct, sn, sub, ab, col, dd, k0, k1, k2, k3, k5, mN, h1, h2, h3, h4⟩ := X
 exact ⟨hg, bm, N, nm, q, bs, hdct, sn, sub, ab, col, dd, k0, k1, k2, k3, k5, mN, h1, h2, h3 _ (.head _), h4.tail⟩
end Mine
end
noncomputable section
set_option tactic.hygienic false
namespace Mine
open PySem PySem.W PyProof.Rows PySem.Calls
noncomputable def yR (c k : String) : Bool := c == k || k == "RoadError"
structure XTab (C : Cx) (cs ks : List String) (ad : String → Addr) : Prop where
 at_ : ∀ k ∈ ks, C.mg (Str.ofString k) = some (.ref (ad k)) ∧ ∃ bm, XC C.hB (ad k) bm
 sub : ∀ c ∈ cs, ∃ bm, C.mg (Str.ofString c) = some (.ref (ad c)) ∧ XC C.hB (ad c) bm ∧ bm.contains (.type "ValueError") = true ∧ ∀ k ∈ ks, (Value.ref (ad c) :: bm).contains (.ref (ad k)) = yR c k
 ve : C.mg (Str.ofString "ValueError") = Option.none
section
variable {C : Cx} {sc : Scope} {k : Nat} {p : Program} {cs ks : List String} {ad : String → Addr}
theorem HSX1.raiseAt (G : Gl C p) (hz : C.held = Option.none) (Tb : XTab C cs ks ad) {c : String} (hc : c ∈ cs) {x : Str} {n : Nat} {np ap cpos pos : Pos} (hn : sc.names.lookup (Str.ofString c) = some .globalImplicit) (hdb : (Str.ofString c == ("__debug__" : Str)) = false) :
  HSX1 C sc k (.Raise (some (.Call (.Name (Str.ofString c) np) [.Constant (.str x) n ap] [] cpos)) Option.none pos) (d7 c) := by
 obtain ⟨bm, h1, h2, _⟩ := Tb.sub c hc
 exact HSX1.raise G.ok hz (h2.own h1) hn hdb
end
section
variable {m : aU} {σ : ag} {Q : Fl → aU → ag → Prop} {X : XT} {R : V → ag → Prop} {Y : String → ag → Prop}
@[simp] theorem qF {T : ST} : xP T m σ Q X = T m σ Q := rfl
@[simp] theorem yl {c : String} : d7 c m σ Q X = X c m σ := rfl
@[simp] theorem Ae {B : BT} {T U : bN} : sN B T U m σ Q X = B m σ fun b σ' => if b then T m σ' Q X else U m σ' Q X := rfl
@[simp] theorem zH {g : Tgt} {I : IT} {T : bN} : mO g I T m σ Q X = I m σ fun items inv σ' => dq g inv T items m σ' Q X := rfl
@[simp] theorem zE {x : String} {T : lH} : ro x T m σ Q X = T m σ (fun v σ' => Q .next (put m x v) σ') fun c σ' => X c m σ' := rfl
@[simp] theorem zF {T : lH} : wN T m σ Q X = T m σ (fun v σ' => Q (.ret v) m σ') fun c σ' => X c m σ' := rfl
@[simp] theorem yO {spec : d6} {L : LT} : hZ spec L m σ R Y = L m σ fun vs σ' => spec vs σ' R Y := rfl
noncomputable def nM (U : bN) (Q : Fl → aU → ag → Prop) (X : XT) : Fl → aU → ag → Prop := fun f m σ => match f with
 | .next => U m σ Q X
 | f => Q f m σ
theorem aC (T U : bN) : aV T U m σ Q X = T m σ (nM U Q X) X := rfl
@[simp] theorem bx (U : bN) : nM U Q X .next m σ = U m σ Q X := rfl
@[simp] theorem yk (U : bN) (v : V) : nM U Q X (.ret v) m σ = Q (.ret v) m σ := rfl
end
theorem eh {g : Tgt} {inv : ag → Prop} {T : bN} (I : Nat → aU → ag → Prop) (hinv : ∀ i m σ, I i m σ → inv σ) (items : List V) {Q : Fl → aU → ag → Prop} {X : XT}
  (step : ∀ i v m σ Q', items[i]? = some v → I i m σ → (∀ m' σ', I (i + 1) m' σ' → Q' .next m' σ') → ∃ m', eE g v m = some m' ∧ T m' σ Q' X)
  (done : ∀ m σ, I items.length m σ → Q .next m σ) : ∀ (m : aU) (σ : ag), I 0 m σ → dq g inv T items m σ Q X := by
 have key : ∀ (n : Nat) (i : Nat) (m : aU) (σ : ag), n = items.length - i → i ≤ items.length → I i m σ → dq g inv T (items.drop i) m σ Q X := by
  intro n
  induction n with
  | zero =>
   intro i m σ hn hi h
   have : i = items.length := by exact Nat.le_antisymm (dK fun hg => lN [i, (items.length)] 0x10a309481 rfl hi hg) (dK fun hg => lN [(items.length - i), i, (items.length)] 0x628c25200c100481 rfl (Nat.le_of_eq (Eq.symm hn)) (dE (items.length) (i)) hg)
   subst this
   rw [List.drop_length]
   exact ⟨hinv _ _ _ h, done m σ h⟩
  | succ n ih =>
   intro i m σ hn hi h
   have hlt : i < items.length := by exact oj fun hg => lN [n, (items.length - i), i, (items.length)] 0x31c273140129061 rfl (Nat.le_of_eq hn) (dj (dK fun hg => lN [i, (items.length)] 0x10a309481 rfl hi hg)) hg
   rw [List.drop_eq_getElem_cons hlt]
   simp only [dq]
   exact ⟨hinv _ _ _ h, step i _ m σ _ (List.getElem?_eq_getElem hlt) h fun m' σ' h' => ih (i + 1) m' σ' (by exact Nat.le_antisymm (dK fun hg => lN [n, (items.length - i), i, (items.length), (items.length - (i + 1))] 0x11030986801c273140129061 rfl (Nat.le_of_eq hn) (dj (dK fun hg => lN [i, (items.length)] 0x2146129061 rfl hlt hg)) (dE (items.length) (i + 1)) hg) (dK fun hg => lN [n, (items.length - i), i, (items.length), (items.length - (i + 1))] 0x208309cc340026280e120ca1 rfl (Nat.le_of_eq (Eq.symm hn)) (dE (items.length) (i)) (dj (dK fun hg => lN [i, (items.length)] 0x41946129061 rfl hlt hg)) hg)) (by exact hlt) h'⟩
 intro m σ h
 have := key items.length 0 m σ (by exact rfl) (by exact Nat.zero_le _) h
 simpa using this
end Mine
end
noncomputable section
set_option tactic.hygienic false
set_option maxRecDepth 100000
namespace Mine
open PySem PySem.W PyProof.Rows PySem.Calls
structure Bk (C : Cx) (bk N : Addr) (mN : Str → Option Value) : Prop where
 glob : C.mg (Str.ofString "Book") = some (.ref bk)
 cls : ClsAt C.hB bk N mN
 look : ∀ n ∈ (["__getattribute__", "__getattr__", "__setattr__", "trees", "made_of"] : List String), mN (Str.ofString n) = none
noncomputable def MtAt (C : Cx) (mN : Str → Option Value) (j : Nat) (f : String) (spec : bR) : Prop :=
 ∃ a o fd, mN (Str.ofString f) = some (.ref a) ∧ C.hB.get? a = some o ∧ o.cls = .type "function" ∧ o.data = .func fd ∧ FnSound C j a spec
noncomputable def MtAtX (C : Cx) (mN : Str → Option Value) (j : Nat) (f : String) (spec : d6) : Prop :=
 ∃ a o fd, mN (Str.ofString f) = some (.ref a) ∧ C.hB.get? a = some o ∧ o.cls = .type "function" ∧ o.data = .func fd ∧ FnSoundX C j a spec
section
variable {C : Cx} {bk N : Addr} {mN : Str → Option Value} {sc : Scope} {k : Nat}
theorem fP {h : Heap} {Cl N : Addr} {mN : Str → Option Value} {P : Prop} (X : ClsAt h Cl N mN)
  (k : ∀ (nm q : Str) (bs : List Value) (sn : List Str) (sub : List Value) (col : Option Bool) (dd : Option Addr) (k0 k1 k2 k3 k5 : Option Value), h.get? Cl = some (excClassObj nm q Cl N bs [.type "object"] true sn sub false col dd k0 k1 k2 k3 k5 "object.__new__") → P) : P := by
 obtain ⟨nm, q, bs, sn, sub, col, dd, k0, k1, k2, k3, k5, hC⟩ := X.obj
 exact k nm q bs sn sub col dd k0 k1 k2 k3 k5 hC
theorem i7 {σ : ag} {s : Shared} {a dx : Addr} {fs : List (String × V)} (B : Bk C bk N mN) (R : RelG C σ s) (ha : σ a = some (.inst dx)) (hd : σ dx = some (.ns fs)) :
  fs.length ≤ 1000 ∧ ∃ mA, s.heap.Inst a bk mA ∧ s.heap.get? a = some { cls := .ref bk, dict := some dx, data := .plain } ∧ (∀ x v, fs.lookup x = some v → ∃ w, mA (Str.ofString x) = some w ∧ VRel C.aS s.heap v w) ∧ ∀ y : Str, (∀ q ∈ fs, y ≠ Str.ofString q.1) → mA y = none := by
 obtain ⟨cl, h1, h2, h3⟩ := R.view _ _ ha
 rw [B.glob] at h1; cases h1
 obtain ⟨hz, mA, h4, h5, h6⟩ := R.view _ _ hd
 exact ⟨hz, mA, ⟨_, h3, rfl, fun c => by simp, .inr ⟨dx, rfl, h2, h4⟩⟩, h3, h5, h6⟩
theorem pZ {fs : List (String × V)} {x : String} (h : fs.lookup x = none) : ∀ q ∈ fs, Str.ofString x ≠ Str.ofString q.1 := by
 induction fs with
 | nil => intro q hq; cases hq
 | cons p r ih =>
  intro q hq e
  rw [List.lookup_cons] at h
  split at h
  ·cases h
  ·rename_i hb
   rcases List.mem_cons.mp hq with rfl | hq
   ·have := cn e
    rw [this] at hb
    simp at hb
   ·exact ih h q hq e
noncomputable def aX (x : String) : Prop := typeLookup (.type "object") (Str.ofString x) = pure none
noncomputable def dM (x : String) (T : ET) : ET := fun m σ Q => T m σ fun v σ' => ∃ a dx fs t, v = .ref a ∧ σ' a = some (.inst dx) ∧ σ' dx = some (.ns fs) ∧ fs.lookup x = some (.ref t) ∧ Q (.ref t) σ'
theorem cr (B : Bk C bk N mN) {x : String} {o : Expr} {pos : Pos} {T : ET} (hx : aX x) (hn : mN (Str.ofString x) = Option.none) (ho : HE C sc k o T)
  (hbase : ∀ env, attributeBase o (Str.ofString x) env (eval o env) = eval o env) : HE C sc k (.Attribute o (Str.ofString x) pos) (dM x T) := by
 refine ⟨?_⟩; intro env A s m σ Q P E en ao R F q hP
 rw [arm_eval_Attribute, hbase]
 refine wpAny_bind (ho.run env A s m σ _ _ E en ao R F q fun v w σ₁ s₁ hv R₁ S₁ q₁ => ?_)
 obtain ⟨a, dx, fs, t, rfl, ha, hd, hl, q₁⟩ := q₁
 cases hv
 obtain ⟨_, mA, hI, _, hm, _⟩ := i7 B R₁ ha hd
 obtain ⟨w, hw, hr⟩ := hm _ _ hl
 cases hr
 refine wpAny_bind (wpAny_standAt (wpAny_bind (wpAny_holding ?_)))
 have hcl := B.cls.keeps R₁.base
 obtain ⟨hh, g, d, tk, os⟩ := s₁
 refine fP hcl fun nm q bs sn sub col dd k0 k1 k2 k3 k5 hC => ?_
 refine load_attr hC hcl.ns (B.look "__getattribute__" (by decide)) hn hx hI hw rfl ?_
 exact wpAny_bind (wpAny_letTemporaryGo (wpAny_pure (hP _ _ σ₁ _ (.ref _) (R₁.tok _) S₁ q₁)))
theorem RelG.turn {σ : ag} {s : Shared} {h' : Heap} {tk : Nat} {a : Addr} {o o' : AObj} (R : RelG C σ s) (ha : σ a = some o) (hk : ∀ b ob, b ≠ a → s.heap.get? b = some ob → h'.get? b = some ob) (ho : ObjRel C h' a o') :
  RelG C (a8 σ a o') { s with heap := h', toks := tk } := by
 obtain ⟨ob, h1, h2, _⟩ := (R.view a o ha).shape
 have kt : a0 s.heap h' := fun b o eb ht => hk b o (by rintro rfl; rw [h1] at eb; cases eb; exact h2 ht) eb
 refine ⟨let ⟨_, _, d, e⟩ := R.rest; ⟨h', tk, d, by rw [e]⟩, fun b o e => hk b o (by rintro rfl; rw [R.apart b (by rw [ha]; simp)] at e; cases e) (R.base b o e), fun b ob e => ?_, fun b hb => ?_⟩
 ·by_cases q : b = a
  ·subst q; rw [an] at e; cases e; exact ho
  ·rw [aI q] at e; exact (R.view b ob e).keep kt fun o e => hk b o q e
 ·by_cases q : b = a
  ·subst q; exact R.apart b (by rw [ha]; simp)
  ·rw [aI q] at hb; exact R.apart b hb
theorem Step.turn {own : Addr → Prop} {σ : ag} {h h' : Heap} {a : Addr} {o o' : AObj} (ha : σ a = some o) (hk : ∀ b ob, b ≠ a → h.get? b = some ob → h'.get? b = some ob) (hz : h.objs.size ≤ h'.objs.size) : Step own σ (a8 σ a o') h h' :=
 .of (fun b o e n _ => hk b o (by rintro rfl; rw [ha] at n; cases n) e) hz fun b n m => by
  by_cases q : b = a
  ·subst q; rw [ha] at n; cases n
  ·rw [aI q] at m; exact absurd n m
theorem rp {fs : List (String × V)} {mA : Str → Option Value} (h : ∀ y : Str, (∀ q ∈ fs, y ≠ Str.ofString q.1) → mA y = none) : Within mA (fs.map fun q => Str.ofString q.1) := by
 intro n e
 apply Classical.byContradiction
 intro hn
 exact e (h n fun q hq z => hn (List.mem_map.mpr ⟨q, hq, z.symm⟩))
noncomputable def qP (x : String) (T To : ET) : ST := fun m σ Q => T m σ fun v σ₁ => To m σ₁ fun o σ₂ => ∃ a dx fs, o = .ref a ∧ σ₂ a = some (.inst dx) ∧ σ₂ dx = some (.ns fs) ∧ fs.length < 1000 ∧ Q .next m (a8 σ₂ dx (.ns ((x, v) :: fs)))
theorem po (B : Bk C bk N mN) {x : String} {o value : Expr} {pos' pos : Pos} {T To : ET} (hx : aX x) (hn : mN (Str.ofString x) = Option.none) (he : HE C sc k value T) (ho : HE C sc k o To)
  (hs : ∀ env, EnvOk env sc → swapsWith value (some (.Attribute o (Str.ofString x) pos')) pos.line env = pure false) : HS1 C sc k (.Assign [.Attribute o (Str.ofString x) pos'] value pos) (qP x T To) := by
 refine ⟨?_⟩; intro env A s m σ Q P E en ao R F q hP
 refine plainObj_wpAny_Assign_Attribute (he.run env A s m σ _ _ E en ao R F q fun v w σ₁ s₁ hv R₁ S₁ q₁ => ho.run env A s₁ m σ₁ _ _ E en ao R₁ (F.step R S₁) q₁ fun u wo σ₂ s₂ hvo R₂ S₂ q₂ => ?_) (hs env en)
 obtain ⟨a, dx, fs, rfl, ha, hd, hz, q₂⟩ := q₂
 cases hvo
 obtain ⟨_, mA, hI, hoa, hm, hno⟩ := i7 B R₂ ha hd
 have hv₂ := hv.keep (S₂.tupsN R₁)
 have hcl := B.cls.keeps R₂.base
 have F₂ := F.step R (S₁.trans S₂)
 have hxC : a ≠ bk := fP B.cls fun nm q bs sn sub col dd k0 k1 k2 k3 k5 hC₀ => by rintro rfl; rw [R₂.apart a (by rw [ha]; simp)] at hC₀; cases hC₀
 refine a7 ?_
 obtain ⟨hh, g, d, tk, os⟩ := s₂
 refine fP hcl fun nm q bs sn sub col dd k0 k1 k2 k3 k5 hC => ?_
 refine store_attr PySem.F.store_object hC hcl.ns (B.look "__setattr__" (by decide)) hn hx hxC hI (fun h' tk' I' hk hsame hsz => ?_) (rp hno) (by rw [List.length_map, sizeLine_eq]; omega)
 obtain ⟨o₁, e₁, c₁, dt₁, sl₁, dk₁⟩ := hsame _ hoa
 have ho₁ : o₁ = { cls := .ref bk, dict := some dx, data := .plain } := by
  obtain ⟨oc, od, odt, osl⟩ := o₁
  have := dk₁ dx rfl
  dsimp only at c₁ dt₁ sl₁ this
  subst c₁ dt₁ sl₁ this
  rfl
 subst ho₁
 have hk' : ∀ b ob, b ≠ dx → hh.get? b = some ob → h'.get? b = some ob := fun b ob hb e => by
  by_cases hba : b = a
  ·subst hba
   have : hh.get? b = _ := hoa
   rw [this] at e; cases e; exact e₁
  ·exact hk b ob hba (fun o₀ d' e₀ ed => by
    have h9 : hh.get? a = _ := hoa
    rw [h9] at e₀; cases e₀; cases ed; exact hb) e
 obtain ⟨ob, hob, hnT, _⟩ := (R₂.view dx _ hd).shape
 have kt : a0 hh h' := fun b o eb ht => hk' b o (by
  rintro rfl
  have h9 : hh.get? b = _ := hob
  rw [h9] at eb; cases eb; exact hnT ht) eb
 obtain ⟨o', e', _, _, hd'⟩ := I'
 rw [e₁] at e'; cases e'
 rcases hd' with ⟨hn0, _⟩ | ⟨d', hd', _, hns'⟩
 ·cases hn0
 cases hd'
 have hobj : ObjRel C h' dx (.ns ((x, v) :: fs)) := by
  refine ⟨by simp; omega, _, hns', fun y u e => ?_, fun y hy => ?_⟩
  ·rw [List.lookup_cons] at e
   split at e
   ·rename_i hb
    cases e
    have : y = x := by simpa using hb
    subst this
    exact ⟨w, by simp, hv₂.keep kt⟩
   ·rename_i hb
    have hyx : y ≠ x := by simpa using hb
    obtain ⟨w', h8, h9⟩ := hm y u e
    exact ⟨w', by simp [show ¬ Str.ofString y = Str.ofString x from fun z => hyx (cn z), h8], h9.keep kt⟩
  ·simp [hy (x, v) (.head _), hno y fun q hq => hy q (.tail _ hq)]
 have R₃ := R₂.turn (tk := tk') hd hk' hobj
 have S₃ : Step no σ₂ (a8 σ₂ dx (.ns ((x, v) :: fs))) hh h' := .turn hd hk' hsz
 exact hP .next .next m _ _ .next R₃ (F₂.step R₂ S₃) ((S₁.trans S₂).trans S₃).own q₂
noncomputable def be (f : String) (spec : bR) (T : ET) (L : LT) : ET := fun m σ Q => T m σ fun v σ₁ => (∃ a dx fs, v = .ref a ∧ σ₁ a = some (.inst dx) ∧ σ₁ dx = some (.ns fs) ∧ fs.lookup f = none) ∧ L m σ₁ fun vs σ₂ => spec (v :: vs) σ₂ Q
theorem k9 {es : List Expr} {env : Env} {pos : Pos} (hp : aD es = true) (hfew : es.length < 30) : methodCallForm (es.length + ([] : List Keyword).length) (backTo pos (starEach es env)) (backToKw pos (keywordEach [] env)) = true := by
 have hall : (backTo pos (starEach es env)).all (fun x => !x.1) = true := by
  have := a9 (env := env) (pos := pos) hp
  rw [List.any_eq_false] at this
  rw [List.all_eq_true]
  intro x hx
  have := this x hx
  simp at this
  simp [this]
 unfold methodCallForm
 rw [hall]
 simp [backToKw, keywordEach]; omega
theorem kD {σ₁ : ag} {s₁ : Shared} {A : Around} {E : Value → Shared → Prop} {pl : Sem Bool} {f : String} {a dx fa : Addr} {fs : List (String × V)} {of : Obj} {y : Option Value} (B : Bk C bk N mN) (R₁ : RelG C σ₁ s₁) (hmf : mN (Str.ofString f) = some (.ref fa)) (hof : C.hB.get? fa = some of) (hfc : of.cls = .type "function") (hB : typeLookup (.type "object") (Str.ofString f) = pure y)
  (ha : σ₁ a = some (.inst dx)) (hd : σ₁ dx = some (.ns fs)) (hl0 : fs.lookup f = none) {Q : Value × List Value → Shared → Prop} (q : Q (.ref fa, [.ref a]) s₁) : wpAny (model C.prog C.w) A (getMethod (.ref a) (Str.ofString f) pl) Q E s₁ := by
 obtain ⟨_, mA, hI, _, _, hno⟩ := i7 B R₁ ha hd
 have hcl := B.cls.keeps R₁.base
 have hfh := R₁.base _ _ hof
 obtain ⟨hh, g, d, tk, os⟩ := s₁
 refine fP hcl fun nm q' bs sn sub col dd k0 k1 k2 k3 k5 hC => ?_
 exact method_of hC hcl.ns (B.look "__getattribute__" (by decide)) (B.look "__getattr__" (by decide)) hmf hfh hfc hB hI (hno _ (pZ hl0)) q
theorem aW (O : C.Ok) (B : Bk C bk N mN) {f : String} {o : Expr} {apos pos : Pos} {es : List Expr} {spec : bR} {To : ET} {L : LT} {j : Nat} {y : Option Value} (hf : MtAt C mN j f spec) (hj : j < k) (hB : typeLookup (.type "object") (Str.ofString f) = pure y) (ho : HE C sc k o To) (hl : HL C sc k es L) (hp : aD es = true)
  (hbase : ∀ env, attributeBase o (Str.ofString f) env (eval o env) = eval o env) (hline : (apos.endLine == pos.line) = true) (hfew : es.length < 30) : HE C sc k (.Call (.Attribute o (Str.ofString f) apos) es [] pos) (be f spec To L) := by
 obtain ⟨fa, of, fd, hmf, hof, hfc, hfd, hS⟩ := hf
 refine ⟨?_⟩; intro env A s m σ Q P E en ao R F q hP
 rw [arm_eval_Call, hbase]
 refine wpAny_bind (ho.run env A s m σ _ _ E en ao R F q fun v w σ₁ s₁ hv R₁ S₁ q₁ => ?_)
 obtain ⟨⟨a, dx, fs, rfl, ha, hd, hl0⟩, q₁⟩ := q₁
 have hv' := hv
 cases hv'
 refine wpAny_bind (wpAny_standAt ?_)
 have hpos : methodCallPos true o env apos pos = pure pos := by unfold methodCallPos; simp [hline]
 unfold methodCall
 rw [k9 hp hfew]
 refine wpAny_bind (wpAny_holding ?_)
 show wpAny _ A (getMethod (.ref a) (Str.ofString f) _) _ E s₁
 refine kD B R₁ hmf hof hfc hB ha hd hl0 ?_
 refine wpAny_bind (wpAny_of_eq hpos ?_)
 show wpAny _ A (callWith pos (.ref fa) [.ref a] (backTo pos (starEach es env)) []) P E s₁
 refine Calls.callWith_function (o := of) (fd := fd) (aY hp (hl.run env A s₁ m σ₁ pos _ _ E en ao R₁ (F.step R S₁) q₁ fun vs ws σ₂ s₂ hvs R₂ S₂ q₂ => ⟨⟨R₂.base _ _ hof, hfd⟩, ?_⟩))
 exact wpAny_call (hS A s₂ σ₂ (.ref a :: vs) (.ref a :: ws) Q P E (ao.le hj) R₂ (.cons (.ref a) hvs) q₂ fun v w σ' s' hv' R' S' q' => hP v w σ' s' hv' R' ((S₁.trans S₂).trans S') q')
noncomputable def j1 (f : String) (spec : d6) (T : ET) (L : LT) : lH := fun m σ Q X => T m σ fun v σ₁ => (∃ a dx fs, v = .ref a ∧ σ₁ a = some (.inst dx) ∧ σ₁ dx = some (.ns fs) ∧ fs.lookup f = none) ∧ L m σ₁ fun vs σ₂ => spec (v :: vs) σ₂ Q X
theorem HEX.mcall (O : C.Ok) (B : Bk C bk N mN) {f : String} {o : Expr} {apos pos : Pos} {es : List Expr} {spec : d6} {To : ET} {L : LT} {j : Nat} {y : Option Value} (hf : MtAtX C mN j f spec) (hj : j < k) (hB : typeLookup (.type "object") (Str.ofString f) = pure y) (ho : HE C sc k o To) (hl : HL C sc k es L) (hp : aD es = true)
  (hbase : ∀ env, attributeBase o (Str.ofString f) env (eval o env) = eval o env) (hline : (apos.endLine == pos.line) = true) (hfew : es.length < 30) : HEX C sc k (.Call (.Attribute o (Str.ofString f) apos) es [] pos) (j1 f spec To L) := by
 obtain ⟨fa, of, fd, hmf, hof, hfc, hfd, hS⟩ := hf
 refine ⟨?_⟩; intro env A s m σ Q X P E en ao R F W q hP hX
 rw [arm_eval_Call, hbase]
 refine wpAny_bind (ho.run env A s m σ _ _ E en ao R F q fun v w σ₁ s₁ hv R₁ S₁ q₁ => ?_)
 obtain ⟨⟨a, dx, fs, rfl, ha, hd, hl0⟩, q₁⟩ := q₁
 have hv' := hv
 cases hv'
 refine wpAny_bind (wpAny_standAt ?_)
 have hpos : methodCallPos true o env apos pos = pure pos := by unfold methodCallPos; simp [hline]
 unfold methodCall
 rw [k9 hp hfew]
 refine wpAny_bind (wpAny_holding ?_)
 show wpAny _ A (getMethod (.ref a) (Str.ofString f) _) _ E s₁
 refine kD B R₁ hmf hof hfc hB ha hd hl0 ?_
 refine wpAny_bind (wpAny_of_eq hpos ?_)
 show wpAny _ A (callWith pos (.ref fa) [.ref a] (backTo pos (starEach es env)) []) P E s₁
 refine Calls.callWith_function (o := of) (fd := fd) (aY hp (hl.run env A s₁ m σ₁ pos _ _ E en ao R₁ (F.step R S₁) q₁ fun vs ws σ₂ s₂ hvs R₂ S₂ q₂ => ⟨⟨R₂.base _ _ hof, hfd⟩, ?_⟩))
 have S₁₂ := S₁.trans S₂
 have W₂ := W.step (S₁₂.own (env := env))
 exact wpAny_call (hS A s₂ σ₂ (.ref a :: vs) (.ref a :: ws) Q X P E (ao.le hj) (W₂.fs (F.step R S₁₂) en.k) R₂ (.cons (.ref a) hvs) q₂ (fun v w σ' s' hv' R' S' q' => hP v w σ' s' hv' R' (S₁₂.trans S') q') fun c e σ' s' fl R' S' x => hX c e σ' s' (fl.less S₁₂.size) R' (S₁₂.trans S') x)
end
end Mine
end
noncomputable section
set_option tactic.hygienic false
set_option maxRecDepth 100000
namespace Mine
open PySem PySem.W PyProof.Rows PySem.Calls
abbrev cL (h : Heap) (Cl : Addr) : Heap := (h.push { cls := .type "dict", data := .dict #[] }).push { cls := .ref Cl, dict := some h.objs.size, data := .plain }
section
variable {prog : Program} {w : World} {A : Around} {E : Value → Shared → Prop} {h : Heap} {g : Array GenState} {d : Drawn} {t : Nat} {os : OsState}
variable {nm q : Str} {Cl N : Addr} {bs : List Value} {sn : List Str} {sub : List Value} {col : Option Bool} {dd : Option Addr} {k0 k1 k2 k3 k5 : Option Value}
theorem rZ {mN : Str → Option Value} {fI : Addr} {oI : Obj} {Q : Fin → Shared → Prop}
  (hC : h.get? Cl = some (excClassObj nm q Cl N bs [.type "object"] true sn sub false col dd k0 k1 k2 k3 k5 "object.__new__")) (hn : h.Ns N mN) (hi : mN "__init__" = some (.ref fI))
  (hfI : h.get? fI = some oI) (hfc : oI.cls = .type "function")
  (hq : wpAny (model prog w) A (call (.ref fI) [.ref (h.objs.size + 1)]) (fun r s' => r = .none ∧ Q (.done (.ret (.ref (h.objs.size + 1)))) s') E ⟨cL h Cl, g, d, t, os⟩) :
  wpAny (model prog w) A (Builtin.«type.__call__» ⟨[.ref Cl], []⟩) Q E ⟨h, g, d, t, os⟩ := by
 have hlk : typeLookup (.type "object") "__init__" = pure (some (.builtin "object.__init__")) := by rw [typeLookup_type, builtinLookup_eq_fast]; kernel_rfl
 have O := PySem.F.objNew
 repeat (first | with_reducible refine wpAny_loadPart_at hC ?_ | with_reducible refine wpAny_madeBy_exc hC ?_ | wp_step)
 refine codeAny_call_builtin_code (Code.quiet_builtin _ O.quiet) (wpAny_check_obj_new O hC (codeAny_obj_new O hC hn hi ?_))
 show wpAny _ _ _ _ _ _
 have old : ∀ b o, h.get? b = some o → (cL h Cl).get? b = some o := fun b o e => Heap.get?_push_of_some _ (Heap.get?_push_of_some _ e)
 have hx : (cL h Cl).get? (h.objs.size + 1) = some { cls := .ref Cl, dict := some h.objs.size, data := .plain } := by heap_get
 have hcC : (Value.ref Cl :: [Value.type "object"]).contains (.ref Cl) = true := by simp
 unfold isInstance
 repeat (first | with_reducible refine wpAny_loadPart_at hx ?_ | (with_reducible refine wpAny_isSubtype_exc (old _ _ hC) ?_; rw [hcC]) | wp_step)
 show wpAny _ _ (typeLookup (.ref Cl) _) _ _ _
 refine wpAny_typeLookup_exc (old _ _ hC) (hn.keeps old) PySem.F.mro_object hlk ?_
 rw [hi]
 refine wpAny_holding (wpAny_bind ?_)
 unfold bindSpecial
 refine wpAny_bind (wpAny_typeOf (T := "function") ⟨_, old _ _ hfI, hfc⟩ ?_)
 rw [if_pos (by decide)]
 refine wpAny_pure (wpAny_bind (wpAny_mono hq (fun r s' hr => ?_) fun _ _ x => x))
 obtain ⟨rfl, hQ⟩ := hr
 wp_walk
 exact hQ
theorem r0 {mN : Str → Option Value} {fI : Addr} {oI : Obj} {Q : Value → Shared → Prop}
  (hC : h.get? Cl = some (excClassObj nm q Cl N bs [.type "object"] true sn sub false col dd k0 k1 k2 k3 k5 "object.__new__")) (hn : h.Ns N mN) (hi : mN "__init__" = some (.ref fI))
  (hfI : h.get? fI = some oI) (hfc : oI.cls = .type "function")
  (hq : wpAny (model prog w) (A.under (.builtin "type.__call__" ⟨[.ref Cl], []⟩)) (call (.ref fI) [.ref (h.objs.size + 1)]) (fun r s' => r = .none ∧ Q (.ref (h.objs.size + 1)) s') E ⟨cL h Cl, g, d, t, os⟩) :
  wpAny (model prog w) A (call (.ref Cl) []) Q E ⟨h, g, d, t, os⟩ := by
 have f1 := tc_lookup
 have f2 := tc_bind (.ref Cl)
 have hT : (⟨h, g, d, t, os⟩ : Shared).TypeIs (.ref Cl) "type" := ⟨_, hC, rfl⟩
 refine wpAny_call (codeAny_of_tree ?_)
 show wpAny _ _ (callAny (.ref Cl) _) _ _ _
 repeat (any_goals (first | assumption | with_reducible refine wpAny_loadPart_at hC ?_ | wp_step))
 refine ⟨rfl, ?_⟩
 exact codeAny_call_builtin_at (Code.quiet_builtin _ (by decide +kernel)) entry_typeCall (wpAny_check_type_call_sub hC (rZ hC hn hi hfI hfc hq))
end
section
variable {C : Cx} {bk N : Addr} {mN : Str → Option Value} {sc : Scope} {k : Nat}
noncomputable def xR (spec : bR) : ET := fun _ σ Q => ∀ a dx, σ a = none → σ dx = none → dx ≠ a → spec [.ref a] (a8 (a8 σ dx (.ns [])) a (.inst dx)) fun r σ' => r = .none ∧ Q (.ref a) σ'
theorem yj (O : C.Ok) (B : Bk C bk N mN) {spec : bR} {j : Nat} {np pos : Pos} (hf : MtAt C mN j "__init__" spec) (hj : j + 1 < k) (hn : sc.names.lookup (Str.ofString "Book") = some .globalImplicit) :
  HE C sc k (.Call (.Name (Str.ofString "Book") np) [] [] pos) (xR spec) := by
 obtain ⟨fa, of, fd, hmf, hof, hfc, hfd, hS⟩ := hf
 refine ⟨?_⟩; intro env A s m σ Q P E en ao R F q hP
 refine wpAny_Call_NameR (Calls.Name_function_global en.k (en.of hn) (Calls.loadGlobal_global (mg := C.mg) (by rw [en.globals]; exact O.g.keeps R.base) B.glob ?_) (by decide))
 refine callWith_cls0 B.cls R.base ?_
 have hcl := B.cls.keeps R.base
 have hfh := R.base _ _ hof
 have n0 := bw s.heap
 have n1 : s.heap.get? (s.heap.objs.size + 1) = Option.none := aB (Nat.le_succ _)
 have hq := q (s.heap.objs.size + 1) s.heap.objs.size (R.freshNone n1) (R.freshNone n0) (Nat.ne_of_lt (Nat.lt_succ_self _))
 have old : ∀ b o, s.heap.get? b = some o → (cL s.heap bk).get? b = some o := fun b o e => Heap.get?_push_of_some _ (Heap.get?_push_of_some _ e)
 have gd : (s.heap.push { cls := .type "dict", data := .dict #[] }).get? s.heap.objs.size = some { cls := .type "dict", data := .dict #[] } := Heap.get?_push_size _ rfl
 have R₁ : RelG C (a8 σ s.heap.objs.size (.ns [])) { s with heap := s.heap.push { cls := .type "dict", data := .dict #[] } } :=
  R.add (tk := s.toks) a4 n0 ⟨by simp, fun _ => Option.none, Heap.Ns1.of_empty ⟨_, #[], _, gd, rfl, fun e he => absurd he (by simp), fun _ => rfl⟩, fun x v e => by simp at e, fun _ _ => rfl⟩
 have gx : (cL s.heap bk).get? (s.heap.objs.size + 1) = some { cls := .ref bk, dict := some s.heap.objs.size, data := .plain } := by
  have := Heap.get?_push_size (s.heap.push { cls := .type "dict", data := .dict #[] }) (o := { cls := .ref bk, dict := some s.heap.objs.size, data := .plain }) rfl
  rw [Heap.size_push] at this; exact this
 have R₂ : RelG C (a8 (a8 σ s.heap.objs.size (.ns [])) (s.heap.objs.size + 1) (.inst s.heap.objs.size)) { s with heap := cL s.heap bk } :=
  R₁.add (tk := s.toks) a4 (aB (by rw [Heap.size_push]; exact Nat.le_refl _)) ⟨bk, B.glob, Nat.ne_of_lt (Nat.lt_succ_self _), gx⟩
 have S₂ : Step no σ (a8 (a8 σ s.heap.objs.size (.ns [])) (s.heap.objs.size + 1) (.inst s.heap.objs.size)) s.heap (cL s.heap bk) :=
  (Step.addPush (o := .ns [])).trans (.add (fun _ _ e => Heap.get?_push_of_some _ e) (by unfold cL; simp only [Heap.size_push]; omega) (by rw [Heap.size_push]; exact Nat.le_refl _))
 obtain ⟨hh, g, d, tk, os⟩ := s
 refine fP hcl fun nm q' bs sn sub col dd k0 k1 k2 k3 k5 hC => ?_
 refine r0 hC hcl.ns hmf hfh hfc ?_
 refine wpAny_call (hS _ _ _ [.ref (hh.objs.size + 1)] [.ref (hh.objs.size + 1)] _ (fun r s' => r = .none ∧ P (.ref (hh.objs.size + 1)) s') E ?_ R₂ (.cons (.ref _) .nil) hq fun v w σ' s' hv R' S' q' => ?_)
 ·refine ⟨?_, ?_, ?_⟩
  ·exact ao.handled
  ·have := ao.depth
   show A.depth + 1 + 3 * (j + 1) + 3 < recursionLimit
   omega
  ·have := ao.units
   have e : (A.under (.builtin "type.__call__" ⟨[.ref bk], []⟩)).units ≤ A.units + 5 := by
    simp only [Around.under]
    show A.units + _ ≤ A.units + 5
    exact Nat.add_le_add_left (show (Code.builtin "type.__call__" { pos := [Value.ref bk] }).cUnits ≤ 5 from Nat.le_of_ble_eq_true rfl) _
   omega
 ·obtain ⟨rfl, q'⟩ := q'
  cases hv
  exact ⟨rfl, hP _ _ σ' s' (.ref _) R' (S₂.trans S') q'⟩
end
end Mine
end
noncomputable section
set_option tactic.hygienic false
namespace Mine
open PySem PySem.W PyProof.Rows PySem.Calls
noncomputable def cq (kvs : List (Int × V)) (k : Int) (v : V) : List (Int × V) :=
 if kvs.any (fun kv => kv.1 = k) then kvs.map (fun kv => if kv.1 = k then (kv.1, v) else kv) else kvs ++ [(k, v)]
noncomputable def cf (kvs : List (Int × V)) (k : Int) : Option V := (kvs.find? fun kv => kv.1 = k).map (·.2)
section
variable {aS : Addr} {h : Heap}
theorem PRel.anyI {a : List (Int × V)} {b : List (Int × Value)} (k : Int) (x : PRel aS h a b) : (a.any fun kv => kv.1 = k) = (b.any fun kv => kv.1 = k) :=
 x.ind (P := fun a b => (a.any fun kv => kv.1 = k) = (b.any fun kv => kv.1 = k)) rfl fun _ _ _ _ _ _ _ e => congrArg _ e
theorem PRel.appendI {a a' : List (Int × V)} {b b' : List (Int × Value)} (x : PRel aS h a b) (y : PRel aS h a' b') : PRel aS h (a ++ a') (b ++ b') :=
 x.ind (P := fun a b => PRel aS h (a ++ a') (b ++ b')) y fun _ _ _ _ _ v _ e => by
  rw [List.cons_append, List.cons_append]; exact And.intro rfl (And.intro v e)
theorem PRel.mapSetI {k : Int} {v : V} {w : Value} (hv : VRel aS h v w) {a : List (Int × V)} {b : List (Int × Value)} (x : PRel aS h a b) : PRel aS h (a.map fun kv => if kv.1 = k then (kv.1, v) else kv) (b.map fun kv => if kv.1 = k then (kv.1, w) else kv) := by
 refine x.ind (P := fun a b => PRel aS h (a.map fun kv => if kv.1 = k then (kv.1, v) else kv) (b.map fun kv => if kv.1 = k then (kv.1, w) else kv)) trivial fun j u z r r' q _ e => ?_
 rw [List.map_cons, List.map_cons]
 by_cases c : j = k
 ·rw [if_pos c, if_pos c]; exact And.intro rfl (And.intro hv e)
 ·rw [if_neg c, if_neg c]; exact And.intro rfl (And.intro q e)
theorem PRel.storedI {k : Int} {v : V} {w : Value} {a : List (Int × V)} {b : List (Int × Value)} (x : PRel aS h a b) (hv : VRel aS h v w) : PRel aS h (cq a k v) (PySem.stored b k w) := by
 unfold cq PySem.stored
 rw [x.anyI k]
 split
 ·exact x.mapSetI hv
 ·exact x.appendI ⟨rfl, hv, trivial⟩
theorem PRel.findI {k : Int} {a : List (Int × V)} {b : List (Int × Value)} (x : PRel aS h a b) {v : V} : cf a k = some v → ∃ w, valueAt b k = some w ∧ VRel aS h v w := by
 refine x.ind (P := fun a b => cf a k = some v → ∃ w, valueAt b k = some w ∧ VRel aS h v w) (fun e => nomatch e) fun j u z r r' q _ e hv => ?_
 unfold cf at hv
 unfold valueAt
 by_cases c : j = k
 ·rw [List.find?_cons_of_pos (by simpa using c)] at hv
  rw [List.find?_cons_of_pos (by simpa using c)]
  cases hv; exact ⟨z, rfl, q⟩
 ·rw [List.find?_cons_of_neg (by simpa using c)] at hv
  rw [List.find?_cons_of_neg (by simpa using c)]
  exact e hv
theorem PRel.noneI {k : Int} {a : List (Int × V)} {b : List (Int × Value)} (x : PRel aS h a b) : (cf a k).isSome = (valueAt b k).isSome := by
 refine x.ind (P := fun a b => (cf a k).isSome = (valueAt b k).isSome) rfl fun j u z r r' q _ e => ?_
 unfold cf valueAt
 by_cases c : j = k
 ·rw [List.find?_cons_of_pos (by simpa using c), List.find?_cons_of_pos (by simpa using c)]; rfl
 ·rw [List.find?_cons_of_neg (by simpa using c), List.find?_cons_of_neg (by simpa using c)]
  exact e
end
section
variable {C : Cx} {p : Program} {sc : Scope} {k : Nat}
theorem il (x : Int) (t : Tok) : (intKind C.prog C.w).is x (.int x t) = true := intKind_is _ _ _ _
theorem qo {h : Heap} {a : Addr} {kws : List (Int × Value)} {ep : Nat} (x : h.DictAt (intKind C.prog C.w) a kws ep) : ∀ o, h.get? a = some o → ¬ jN o := by
 intro o ho
 obtain ⟨o', es, ho', hc, hd, _⟩ := x
 rw [ho] at ho'; cases ho'
 simp [jN, hd]
theorem jm (kvs : List (Int × V)) (x : Int) (v : V) : (cq kvs x v).length ≤ kvs.length + 1 := by
 unfold cq; split <;> simp
noncomputable def vh (o i v : V) (σ : ag) (Q : ag → Prop) : Prop := isR o fun a => isI i fun k => ∃ kvs ep, σ a = some (.idict kvs ep) ∧ kvs.length < 16777216 ∧ ∀ ep', Q (a8 σ a (.idict (cq kvs k v) ep'))
theorem qV : uP C k vh := by
 intro A s σ o i v wo wi w Q P E ao R vo vi vv q hP
 obtain ⟨a, rfl, q1⟩ := isR.elim q
 obtain ⟨x, rfl, kvs, ep, hx, hz, q⟩ := isI.elim q1
 ·cases vo; cases vi
  obtain ⟨_, kws, h1, h2⟩ := R.view _ _ hx
  have hl := h2.length
  refine wpAny_setItem_pairs (knd := intKind C.prog C.w) (il x _) h1.dictOf (fun h' hd' hs' => ?_) (by rw [sizeLine_eq, ← hl]; omega)
  obtain ⟨ep', hat⟩ := hd'.dictAt
  have kt : a0 s.heap h' := fun b o eb ht => hs'.extBut b o (by rintro rfl; exact qo h1 o eb ht) eb
  have vl := jm kvs x v
  exact hP (a8 σ a (.idict (cq kvs x v) ep')) _ (R.change (tk := s.toks + 1) hx hs' ⟨by omega, _, hat, (h2.storedI vv).keep kt⟩) (.change hx hs') (q ep')
noncomputable def qU : O2 := fun i o σ Q => isI i fun x => isR o fun a => ∃ kvs ep, σ a = some (.idict kvs ep) ∧ Q (.bool (cf kvs x).isSome) σ
theorem tK (O : C.Ok) : hW C k (compareOp .In) qU := by
 intro A s σ a b wa wb Q P E ao R va vb q hP
 obtain ⟨x, rfl, q1⟩ := isI.elim q
 obtain ⟨a, rfl, kvs, ep, hx, q⟩ := isR.elim q1
 ·cases va; cases vb
  obtain ⟨_, kws, h1, h2⟩ := R.view _ _ hx
  refine wpAny_in_of (knd := intKind C.prog C.w) (il x _) (O.noMods (R.apart a (by rw [hx]; simp))) h1.dictOf.mapOf ?_
  rw [← h2.noneI]
  exact hP _ _ σ _ (.bool _) (R.tok _) Step.refl q
noncomputable def ig : O2 := fun o i σ Q => isR o fun a => isI i fun x => ∃ kvs ep v, σ a = some (.idict kvs ep) ∧ cf kvs x = some v ∧ Q v σ
theorem tI {slice : Expr} (hsl : eX slice = false) : hW C k (fun o i => getitemInPython o >>= fun b => subscripted slice b o i) ig := by
 intro A s σ a b wa wb Q P E ao R va vb q hP
 obtain ⟨a, rfl, q1⟩ := isR.elim q
 obtain ⟨x, rfl, kvs, ep, v, hx, hv, q⟩ := isI.elim q1
 ·cases va; cases vb
  obtain ⟨_, kws, h1, h2⟩ := R.view _ _ hx
  obtain ⟨w, e1, e2⟩ := h2.findI hv
  exact dD hsl h1.dictOf.typeIs slot_dict_getitem.lookup (wpAny_getItem_of (knd := intKind C.prog C.w) (il x _) h1.dictOf.mapOf e1 (hP _ _ σ _ e2 (R.tok _) Step.refl q))
theorem uS {value slice : Expr} {pos : Pos} {T U : ET} (hv : HE C sc k value T) (hi : HE C sc k slice U) (hs : eX slice = false) : HE C sc k (.Subscript value slice pos) (ax ig T U) :=
 qz hv hi (tI hs)
end
end Mine
end
noncomputable section
set_option tactic.hygienic false
set_option maxRecDepth 100000
namespace Mine
open PySem PySem.W PyProof.Rows PySem.Calls
section
variable {C : Cx} {p : Program} {sc : Scope} {k : Nat}
noncomputable def kw : O2 := fun i o σ Q => isI i fun x => isR o fun a => ∃ kvs ep, σ a = some (.idict kvs ep) ∧ Q (.bool (!(cf kvs x).isSome)) σ
theorem rW (O : C.Ok) : hW C k (compareOp .NotIn) kw := by
 intro A s σ a b wa wb Q P E ao R va vb q hP
 obtain ⟨x, rfl, q1⟩ := isI.elim q
 obtain ⟨a, rfl, kvs, ep, hx, q⟩ := isR.elim q1
 ·cases va; cases vb
  obtain ⟨_, kws, h1, h2⟩ := R.view _ _ hx
  refine wpAny_notIn_of (knd := intKind C.prog C.w) (il x _) (O.noMods (R.apart a (by rw [hx]; simp))) h1.dictOf.mapOf ?_
  rw [← h2.noneI]
  exact hP _ _ σ _ (.bool _) (R.tok _) Step.refl q
structure HQ (C : Cx) (sc : Scope) (e : Expr) (T : ET) : Prop where
 run : ∀ (env : Env) (A : Around) (s : Shared) (m : aU) (σ : ag) (Q : V → ag → Prop) (P : Value → Shared → Prop) (E : Value → Shared → Prop),
  EnvOk env sc → RelG C σ s → FrameRel C env m σ s.heap → T m σ Q → (∀ v w tk, VRel C.aS s.heap v w → Q v σ → P w { s with toks := tk }) → wpAny (model C.prog C.w) A (eval e env) P E s
theorem nI {x : String} {pos : Pos} (h : sc.names.lookup (Str.ofString x) = some .local) (hd : (Str.ofString x == ("__debug__" : Str)) = false) : HQ C sc (.Name (Str.ofString x) pos) (ae x) := by
 refine ⟨?_⟩; intro env A s m σ Q P E en R F q₀ hP
 obtain ⟨v, hv, q⟩ := q₀.elim
 obtain ⟨mm, hn, hm⟩ := F.ns
 obtain ⟨w, hw, hr⟩ := hm x v hv (en.of h)
 exact wpAny_Name (wpAny_loadName_local en.k (en.of h) hn hw (hP v w s.toks hr q)) hd
theorem wj {b : Bool} {n : Nat} {pos : Pos} : HQ C sc (.Constant (.bool b) n pos) (az (.bool b)) := by
 refine ⟨?_⟩; intro env A s m σ Q P E en R F q hP
 exact wpAny_Constant_bool (hP _ _ s.toks (.bool b) q)
noncomputable def zd (kvs : List (Int × V)) (σ : ag) (Q : V → ag → Prop) : Prop := ∀ a ep, σ a = Option.none → Q (.ref a) (a8 σ a (.idict kvs ep))
noncomputable def jT (T U : ET) : ET := fun m σ Q => T m σ fun v σ₁ => U m σ₁ fun u σ₂ => ∃ i, v = .int i ∧ zd [(i, u)] σ₂ Q
theorem mM {key val : Expr} {pos : Pos} {T U : ET} (hk : HQ C sc key T) (hv : HQ C sc val U) : HE C sc k (.Dict [some key] [val] pos) (jT T U) := by
 refine ⟨?_⟩; intro env A s m σ Q P E en ao R F q hP
 have hn := bw s.heap
 have R₀ : RelG C σ { s with heap := s.heap.push { cls := .type "dict", data := .dict #[] } } := R.grow (tk := s.toks) a4
 have F₀ : FrameRel C env m σ (s.heap.push { cls := .type "dict", data := .dict #[] }) := F.step R .push
 refine wpAny_Dict_walk (knd := intKind C.prog C.w) rfl rfl (by simp) (by simp) (pairTrees_cons_walk (hk.run env A _ m σ _ _ E en R₀ F₀ q fun v w tk hvr q₁ => hv.run env A _ m σ _ _ E en (R₀.tok tk) F₀ q₁ fun u wu tk' hu q₂ => pairTrees_nil_walk ?_))
 obtain ⟨i, rfl, q₂⟩ := q₂
 cases hvr
 refine ⟨[(i, wu)], ⟨il i _, rfl, trivial⟩, Heap.DictOf.new s.heap, fun h' hd hs => ?_⟩
 have hm : merged ([] : List (Int × Value)) [(i, wu)] = [(i, wu)] := by simp [merged, stored]
 rw [hm] at hd
 obtain ⟨ep, hat⟩ := hd.dictAt
 have old : ∀ b o, s.heap.get? b = some o → h'.get? b = some o := fun b o e => (hs.2 b (Nat.ne_of_lt (Heap.lt_size e))).trans (a4 b o e)
 have kt : a0 (s.heap.push { cls := .type "dict", data := .dict #[] }) h' := fun b o e ht => (hs.2 b (by
  rintro rfl
  rw [Heap.get?_push_size _ rfl] at e; cases e
  obtain ⟨_, _, _, z, _⟩ := ht; cases z)).trans e
 have hz : s.heap.objs.size ≤ h'.objs.size := by
  have h1 : h'.objs.size = (s.heap.push { cls := .type "dict", data := .dict #[] }).objs.size := hs.1
  have h2 : (s.heap.push { cls := .type "dict", data := .dict #[] }).objs.size = s.heap.objs.size + 1 := Heap.size_push _ _
  omega
 exact hP (.ref _) _ (a8 σ s.heap.objs.size (.idict [(i, u)] ep)) _ (.ref _) (R.add (tk := tk' + 1) old hn ⟨by simp, _, hat, rfl, hu.keep kt, trivial⟩) (.add old hz (Nat.le_refl _)) (q₂ _ ep (R.freshNone hn))
noncomputable def lL (ks : List Int) : List Int := ks.mergeSort fun a b => decide (a ≤ b)
theorem gh (xs : List Int) : (lL xs).Perm xs := List.mergeSort_perm _ _
theorem jo (xs : List Int) : (lL xs).Pairwise (· ≤ ·) := by
 have := List.pairwise_mergeSort (le := fun a b : Int => decide (a ≤ b)) (fun a b c h1 h2 => by simp at *; omega) (fun a b => by simp; omega) xs
 exact this.imp fun h => by simpa using h
theorem io : ∀ {a b : List Int}, a.Perm b → a.Pairwise (· ≤ ·) → b.Pairwise (· ≤ ·) → a = b
 | [], _, p, _, _ => p.nil_eq
 | x :: r, b, p, ha, hb => by
  cases b with
  | nil => exact absurd p.length_eq (by simp)
  | cons y t =>
   have hx : x ∈ y :: t := p.mem_iff.mp (.head _)
   have hy : y ∈ x :: r := p.mem_iff.mpr (.head _)
   have e : x = y := by
    rcases List.mem_cons.mp hx with h | h
    ·exact h
    ·rcases List.mem_cons.mp hy with h' | h'
     ·exact h'.symm
     ·exact Int.le_antisymm ((List.pairwise_cons.mp ha).1 y h') ((List.pairwise_cons.mp hb).1 x h)
   subst e
   rw [io (List.Perm.cons_inv p) (List.pairwise_cons.mp ha).2 (List.pairwise_cons.mp hb).2]
theorem oy {aS : Addr} {h : Heap} {ys : List Int} {ws : List Value} (x : IntsAre ws ys) : VRels aS h (ys.map .int) ws := by
 induction x with
 | nil => exact .nil
 | cons y t r ih => exact .cons (.int y t) ih
theorem kH {aS : Addr} {h : Heap} : ∀ {ys : List Int} {ws : List Value}, VRels aS h (ys.map .int) ws → IntsAre ws ys
 | [], _, r => by rw [r.inv0]; exact .nil
 | y :: ys, _, r => by
  obtain ⟨w, ws, rfl, h1, r2⟩ := r.invC
  obtain ⟨t, rfl⟩ := h1.invInt
  exact .cons y t (kH r2)
theorem oA {ys : List Int} {ws : List Value} (x : IntsAre ws ys) : ws.length = ys.length := by
 induction x with
 | nil => rfl
 | cons y t r ih => exact congrArg (· + 1) ih
theorem j9 {A : Around} {s : Shared} {σ : ag} {r : Value} {Q : V → ag → Prop} {P : Value → Shared → Prop} {E : Value → Shared → Prop} {ks : List Int} (ao : AOk C A k) (R : RelG C σ s)
  (hcol : ∀ R' : List Value → Shared → Prop, (∀ (h' : Heap) (tk : Nat) (d : Drawn) (vs : List Value) (ks' : List Int), (∀ b o, s.heap.get? b = some o → h'.get? b = some o) → s.heap.objs.size ≤ h'.objs.size → IntsAre vs ks' → ks'.Perm ks → R' vs { s with heap := h', toks := tk, drawn := d }) →
   wpAny (model C.prog C.w) A.in1 (collect r) R' E s) (hz : ks.length < 64)
  (q : cJ ((lL ks).map .int) σ Q) (hP : uX C σ s Q P) : wpAny (model C.prog C.w) A (PySem.call (.builtin "sorted") [r]) P E s := by
 refine call_function_entry kind_sorted plain_sorted entry_sorted (args_sorted1 _) ?_
 unfold Builtin.«sorted»
 refine wpAny_bind (m := checkCount "sorted" 1 1 _) (wpAny_pure ?_)
 refine wpAny_bind (hcol _ fun h' tk d vs ks' hk hsz hs hp => ?_)
 have hvl : vs.length = ks.length := by rw [← hp.length_eq, oA hs]
 refine wpAny_bind (wpAny_newList ?_ (by rw [hvl, sizeLine_eq]; omega))
 have hoL : (h'.push (seqObj "list" vs.toArray 0)).get? h'.objs.size = some (seqObj "list" vs.toArray 0) := Heap.get?_push_size _ rfl
 refine wpAny_bind (wpAny_holding (wpAny_call_entry slot_list_sort ⟨_, hoL, rfl⟩ entry_list_sort (list_sort_tree hoL hs (by rw [hvl]; exact hz) fun out ss' h1 h2 h3 => ⟨_, rfl, ?_⟩) (args_list_sort _)))
 refine wpAny_pure ⟨_, rfl, ?_⟩
 have hsr : ss' = lL ks := io ((h2.trans hp).trans (gh ks).symm) h3 (jo ks)
 subst hsr
 obtain ⟨e, he⟩ := sortedHeap_at (out := out) hoL
 have hk2 : ∀ b o, s.heap.get? b = some o → (sortedHeap (h'.push (seqObj "list" vs.toArray 0)) h'.objs.size vs out).get? b = some o := fun b o eb => by
  have hb := Heap.lt_size (hk b o eb)
  rw [sortedHeap_old (Nat.ne_of_lt hb) (by rw [Heap.size_push]; exact Nat.lt_succ_of_lt hb)]
  exact Heap.get?_push_of_some _ (hk b o eb)
 have hn : s.heap.get? h'.objs.size = Option.none := aB hsz
 have hsz2 : s.heap.objs.size ≤ (sortedHeap (h'.push (seqObj "list" vs.toArray 0)) h'.objs.size vs out).objs.size := Nat.le_trans hsz (Nat.le_of_lt (Heap.lt_size he))
 exact hP (.ref h'.objs.size) (.ref h'.objs.size) (a8 σ h'.objs.size (.list ((lL ks).map .int))) _ (.ref _)
  ((R.draw d).add (tk := tk) (s := { s with drawn := d }) hk2 hn ⟨by rw [List.length_map, (gh ks).length_eq]; omega, out.toList, ⟨e, by simpa using he⟩, oy h1⟩) (.add hk2 hsz2 hsz) (q _ (R.freshNone hn))
theorem se {s : Shared} {kvs : List (Int × V)} {kws : List (Int × Value)} {vs : List Value} (h2 : PRel C.aS s.heap kvs kws) (hl : vs.length = kws.length) (hv : ∀ (j : Nat) (v : Value), vs[j]? = some v → ∃ k x, kws[j]? = some (k, x) ∧ (intKind C.prog C.w).is k v = true) : IntsAre vs (kvs.map (·.1)) := by
 have hkeys : kvs.map (·.1) = kws.map (·.1) := by
  clear hl hv
  induction kvs generalizing kws with
  | nil => cases kws with | nil => rfl | cons _ _ => exact h2.elim
  | cons q r ih => cases kws with
   | nil => exact h2.elim
   | cons q' r' => obtain ⟨e, _, h⟩ := h2; simp only [List.map_cons]; rw [ih h]; exact congrArg (· :: _) e
 rw [hkeys]
 clear h2 hkeys
 induction kws generalizing vs with
 | nil => have : vs = [] := List.length_eq_zero_iff.mp (by simpa using hl); subst this; exact .nil
 | cons q kws ih =>
  match vs, hl with
  | v :: vs, hl =>
   obtain ⟨ky, x, e1, e2⟩ := hv 0 v rfl
   simp at e1
   subst e1
   obtain ⟨t, rfl⟩ := Value.isInt_shape e2
   exact .cons ky t (ih (by simpa using hl) fun j v e => hv (j + 1) v (by simpa using e))
noncomputable def nf (T : ET) : ET := fun m σ Q => T m σ fun v σ₁ => ∃ a kvs ep, v = .ref a ∧ σ₁ a = some (.idict kvs ep) ∧ kvs.length < 64 ∧ cJ ((lL (kvs.map (·.1))).map .int) σ₁ Q
theorem lC (G : Gl C p) (hpl : C.held = Option.none) {np pos ap cp : Pos} {o : Expr} {T : ET} (hn : sc.names.lookup (Str.ofString "sorted") = some .globalImplicit) (ho : HE C sc k o T)
  (hbase : ∀ env, attributeBase o (Str.ofString "keys") env (eval o env) = eval o env) (hline : (ap.endLine == cp.line) = true) :
  HE C sc k (.Call (.Name (Str.ofString "sorted") np) [.Call (.Attribute o (Str.ofString "keys") ap) [] [] cp] [] pos) (nf T) := by
 refine ⟨?_⟩; intro env A s m σ Q P E en ao R F q hP
 have O := G.ok
 refine wpAny_Call_NameR (Calls.Name_function_global en.k (en.of hn) (Calls.loadGlobal_builtin (mg := C.mg) (mb := C.mb) (by rw [en.globals]; exact O.g.keeps R.base) (G.free _ (by decide)) (by rw [en.builtins]; exact O.b.keeps R.base) (G.blt gm (by decide)) ?_) rfl)
 refine Calls.callWith_builtin (a9 rfl) (aY rfl ?_)
 show wpAny _ A (spliced ((false, eval (.Call (.Attribute o (Str.ofString "keys") ap) [] [] cp) env) :: backTo pos (starEach [] env))) _ E s
 refine Calls.spliced_cons ?_
 refine wpAny_Call_method (T := "dict") (id := "dict.keys") (hbase env) rfl hline _root_.PySem.F.plainAttrs_dict _root_.PySem.F.slot_dict_keys _root_.PySem.F.type_dict_keys ?_
 refine ho.run env A s m σ _ _ E en ao R F q fun v w σ₁ s₁ hv R₁ S₁ q₁ => ?_
 obtain ⟨a, kvs, ep, rfl, hx, hz64, q₁⟩ := q₁
 cases hv
 obtain ⟨hz, kws, h1, h2⟩ := R₁.view _ _ hx
 refine ⟨h1.dictOf.typeIs, h1.dictOf.mapOf.noDict, ?_⟩
 show wpAny _ _ (callWith cp (.builtin "dict.keys") [.ref a] [] []) _ E s₁
 refine method_meetsIn _root_.PySem.F.slot_dict_keys _root_.PySem.F.entry_dict_keys rfl (PySem.evalArgs_none ⟨rfl, h1.dictOf.typeIs, _root_.PySem.F.args_dict_keys_1 _, _, kdl_meets_keys (intKind C.prog C.w) a (O.noMods (R₁.apart a (by rw [hx]; simp))), ⟨kws, h1.dictOf⟩, ?_⟩)
 refine Calls.spliced_nil ?_
 show wpAny _ A (PySem.call (.builtin "sorted") [.ref s₁.heap.objs.size]) P E _
 have hl := h2.length
 have R₂ : RelG C σ₁ { s₁ with heap := s₁.heap.push { cls := .type "dict_keys", data := .fields #[.ref a] } } := R₁.grow (tk := s₁.toks) a4
 refine j9 (ks := kvs.map (·.1)) ao R₂ (fun R' hR => a7 (kdu_collect (kdl_keys (knd := intKind C.prog C.w) (kvs := kws) (ep := ep) (r := s₁.heap.objs.size) (d := a)) (by show A.handled = _; exact ao.none hpl)
  ⟨⟨_, Heap.get?_push_size _ rfl, rfl, rfl⟩, h1.push _⟩ (kdl_size (by omega)) fun h' tk acc hk hacc => ?_)) (by simpa using hz64) q₁ fun v w σ' s' hv' R' S' q' => hP v w σ' s' hv' R' ((S₁.trans .push).trans S') q'
 intro hsz
 exact hR h' tk s₁.drawn acc.toList _ hk hsz (se h2 (by rw [Array.length_toList]; exact hacc.1) fun j v e => hacc.2 j v (by rw [← Array.getElem?_toList]; exact e)) (List.Perm.refl _)
noncomputable def mW : bR := fun vs σ Q => onR vs fun a => ∃ ns : List Int, σ a = some (.list (ns.map .int)) ∧ 0 < ns.length ∧ ∀ M, M ∈ ns → (∀ b, b ∈ ns → b ≤ M) → Q (.int M) σ
theorem vA (hz : C.held = Option.none) : nG C k (fun ws => PySem.call (.builtin "max") ws) mW := by
 intro A s σ vs ws Q P E ao R hv q hP
 obtain ⟨a, rfl, ns, hx, hne, q⟩ := onR.elim q
 ·obtain ⟨wa, rfl, h1⟩ := hv.inv1
  cases h1
  obtain ⟨_, us, h2, h3⟩ := R.view _ _ hx
  have hI := kH h3
  obtain ⟨xs, e⟩ := hI.allInts.items
  have hns : ns = xs.toList.map (·.1) := by
   rw [← hI.numsOf, ← nums_intItems, ← e]
  have hsz : 0 < xs.size := by
   have h3 := hne; rw [hns, List.length_map, Array.length_toList] at h3; exact h3
  have hl := h2.isList
  rw [e] at hl
  refine a7 (max_intList (ao.none hz) hl hsz fun v h' tk hv hk => ?_)
  intro hsz'
  obtain ⟨t, rfl⟩ := intItems_at hv
  obtain ⟨h4, h5⟩ := argBest_gt (numAt xs) (xs.size - 1)
  refine hP _ _ σ _ (.int _ _) (R.grow hk) (.grow hk hsz') (q _ ?_ fun b hb => ?_)
  ·rw [hns, numAt_eq]; exact getD_mem (by rw [List.length_map, Array.length_toList]; omega)
  ·rw [hns] at hb
   obtain ⟨j, hj, rfl⟩ := mem_getD hb
   rw [List.length_map, Array.length_toList] at hj
   rw [← numAt_eq]; exact h5 j (by omega)
theorem wn (G : Gl C p) (hz : C.held = Option.none) {np pos : Pos} {es : List Expr} {L : LT} (hn : sc.names.lookup (Str.ofString "max") = some .globalImplicit) (hl : HL C sc k es L) (hp : aD es = true) : HE C sc k (.Call (.Name (Str.ofString "max") np) es [] pos) (aM mW L) :=
 c7 G.ok (vA hz) hn (G.free _ (by decide)) (G.blt uI (by decide)) rfl hl hp
noncomputable def iQ (B : BT) (T : ST) : Nat → ST
 | 0 => fun _ _ _ => False
 | n + 1 => fun m σ Q => B m σ fun b σ' => if b then T m σ' (fun f m₁ σ₁ => match f with
  | .next => iQ B T n m₁ σ₁ Q
  | .cont => iQ B T n m₁ σ₁ Q
  | .brk => Q .next m₁ σ₁
  | .ret v => Q (.ret v) m₁ σ₁) else Q .next m σ'
noncomputable def ti (B : BT) (T : ST) : ST := fun m σ Q => ∃ n, iQ B T n m σ Q
theorem sJ {test : Expr} {body : List Stmt} {pos : Pos} {B : BT} {T : ST} (hb : HB C sc k test B) (ht : HS C sc k body T) : HS1 C sc k (.While test body [] pos) (ti B T) := by
 refine ⟨?_⟩; intro env A s m σ Q P E en ao R F ⟨n, q⟩ hP
 refine wpAny_While (codeAny_whileLoop (fun n s' => ∃ m' σ', RelG C σ' s' ∧ FrameRel C env m' σ' s'.heap ∧ Step (jd env) σ σ' s.heap s'.heap ∧ iQ B T n m' σ' Q) ?_ n ⟨m, σ, R, F, Step.refl, q⟩)
 rintro n s' ⟨m', σ', R', F', S', q'⟩
 cases n with
 | zero => exact q'.elim
 | succ n =>
  refine hb.run env A s' m' σ' _ _ _ en ao R' F' q' fun b σ₁ s₁ R₁ S₁ q₁ => ?_
  have S₁' := S'.trans S₁.own
  cases b with
  | false =>
   simp only [Bool.false_eq_true, if_false] at q₁ ⊢
   exact wpAny_execs_nil (hP .next .next m' σ₁ s₁ .next R₁ (F'.step R' S₁) S₁' q₁)
  | true =>
   simp only [if_true] at q₁ ⊢
   refine ht.run env A s₁ m' σ₁ _ _ _ en ao R₁ (F'.step R' S₁) q₁ fun f g m₂ σ₂ s₂ hf R₂ F₂ S₂ q₂ => ?_
   have S₂' := S₁'.trans S₂
   cases hf with
   | next => exact ⟨n, Nat.lt_succ_self _, m₂, σ₂, R₂, F₂, S₂', q₂⟩
   | cont => exact ⟨n, Nat.lt_succ_self _, m₂, σ₂, R₂, F₂, S₂', q₂⟩
   | brk => exact hP .next .next m₂ σ₂ s₂ .next R₂ F₂ S₂' q₂
   | ret hv => exact hP _ _ m₂ σ₂ s₂ (.ret hv) R₂ F₂ S₂' q₂
end
end Mine
end
noncomputable section
set_option maxRecDepth 100000
namespace Mine
open PySem PySem.W PyProof.Rows PySem.Calls
section
variable {C : Cx} {p : Program} {sc : Scope} {k : Nat}
noncomputable def pO : ST := fun _ _ _ => False
theorem sK {st : Stmt} : HS1 C sc k st pO := ⟨fun _ _ _ _ _ _ _ _ _ _ _ _ q _ => q.elim⟩
noncomputable def qH (T : lH) : bN := fun m σ Q X => T m σ (fun _ σ' => Q .next m σ') fun c σ' => X c m σ'
theorem HSX1.exprX {pos : Pos} {value : Expr} {T : lH} (he : HEX C sc k value T) (hs : ∀ env, EnvOk env sc → swapsWith value Option.none pos.line env = pure false) : HSX1 C sc k (.Expr value pos) (qH T) := by
 refine ⟨?_⟩; intro env A s m σ Q X P E en ao R F W q hP hX
 have hi : interactive env = false := by unfold interactive; rw [en.k]; rfl
 rw [exec_Expr env value pos hi (hs env en)]
 refine wpAny_bind (wpAny_standAt (wpAny_bind (he.run env A s m σ _ _ _ E en ao R F W q (fun v w σ₁ s₁ hv R₁ S₁ q₁ => ?_) (AftXc.of R F hX))))
 exact wpAny_dropValue (hP .next .next m σ₁ s₁ .next R₁ (F.step R S₁) S₁.own q₁)
section
variable {m : aU} {σ : ag} {Q : Fl → aU → ag → Prop} {X : XT} {R : V → ag → Prop} {Y : String → ag → Prop}
@[simp] theorem yq : pO m σ Q = False := rfl
@[simp] theorem yN {T : lH} : qH T m σ Q X = T m σ (fun _ σ' => Q .next m σ') fun c σ' => X c m σ' := rfl
end
noncomputable def my (a : Int) : List V := (List.range (a + 1).toNat).map fun (i : Nat) => .int (a - i)
theorem vM (hz : C.held = none) (I : Addr) (a : Int) (n : Nat) : It C k I ((List.range n).map fun (i : Nat) => V.int (a - i)) (fun _ => True) (fun i h => IsRangeIter h I (a + (i : Nat) * (-1)) ((n : Int) - (i : Nat)) (-1)) where
 frame := fun i h h' st kI _ => kI _ st
 live := fun i h st => ⟨_, st, fun ⟨_, _, _, h2⟩ => by simp at h2, fun v h2 => by simp at h2⟩
 flds := fun i h st o' ho' es ep z => by rw [st] at ho'; cases ho'; cases z
 next := fun A σ s i v Q E ao R inv st hv hQ => by
  rw [List.getElem?_map] at hv
  obtain ⟨j, hj, rfl⟩ := Option.map_eq_some_iff.mp hv
  have hjn := List.getElem?_eq_some_iff.mp hj
  obtain ⟨hlt, hji⟩ := hjn
  simp at hji hlt
  subst hji
  refine wpAny_pyNext_range_item st (by omega) fun h' hit' hs' => ?_
  have e1 : a + ((i + 1 : Nat) : Int) * (-1) = a + (i : Int) * (-1) + (-1) := by push_cast; omega
  have e2 : (n : Int) - ((i + 1 : Nat) : Int) = (n : Int) - (i : Int) - 1 := by push_cast; omega
  refine hQ _ h' _ ?_ (by rw [e1, e2]; exact hit') hs'.extBut
  have e3 : a + (i : Int) * (-1) = a - i := by omega
  rw [e3]; exact .int _ _
 done := fun A σ s Q E ao R inv st hQ => wpAny_pyNext_range_end (ao.none hz) st (by simp) fun h' hx => hQ h' s.toks hx
 self := fun A s i Q E st q => wpAny_pyIter_rangeiter st q
 own := fun A s i t w Q E st q => cF st rfl (by decide) q
noncomputable def onH (vs : List V) (F : Int → List V → Prop) : Prop := match vs with | a :: r => isI a fun x => F x r | _ => False
theorem onH.elim {vs : List V} {F : Int → List V → Prop} (h : onH vs F) : ∃ x r, vs = .int x :: r ∧ F x r := by
 rcases vs with _ | ⟨a, r⟩
 ·exact False.elim h
 ·obtain ⟨x, rfl, h⟩ := isI.elim h; exact ⟨x, r, rfl, h⟩
noncomputable def qm (vs : List V) (σ : ag) (Q : List V → (ag → Prop) → ag → Prop) : Prop :=
 onH vs fun a r => onH r fun b r => onI r fun c => (b = -1 ∧ c = -1 ∧ 0 ≤ a ∧ a < 1000000) ∧ Q (my a) (fun _ => True) σ
noncomputable def uf (L : LT) : IT := fun m σ Q => L m σ fun vs σ' => qm vs σ' Q
theorem fH {a : Int} (h : 0 ≤ a) : Builtin.Range.rangeSize a (-1) (-1) = a + 1 := by
 unfold Builtin.Range.rangeSize
 simp
 omega
theorem wl (G : Gl C p) (hz : C.held = none) {np pos : Pos} {es : List Expr} {L : LT} (hn : sc.names.lookup (Str.ofString "range") = some .globalImplicit) (hl : HL C sc k es L) (hp : aD es = true) :
  HI C sc k (.Call (.Name (Str.ofString "range") np) es [] pos) (uf L) := by
 refine ⟨?_⟩; intro env A s m σ Q P E en ao R F q hP
 have O := G.ok
 refine wpAny_Call_NameR (Calls.Name_function_global en.k (en.of hn) (Calls.loadGlobal_builtin (mg := C.mg) (mb := C.mb) (by rw [en.globals]; exact O.g.keeps R.base) (G.free _ (by decide)) (by rw [en.builtins]; exact O.b.keeps R.base) (G.blt oQ (by decide)) ?_) (by decide))
 refine PySem.callWith_type (a9 hp) (aY hp (hl.run env A s m σ pos _ _ E en ao R F q fun vs ws σ₁ s₁ hv R₁ S₁ q₁ => ?_))
 have fr : s.heap.objs.size ≤ s₁.heap.objs.size + 1 := Nat.le_succ_of_le S₁.size
 have hσ : σ₁ (s₁.heap.objs.size + 1) = Option.none := R₁.freshNone (aB (Nat.le_succ _))
 show wpAny _ A (PySem.call (.type "range") ([] ++ ws)) _ _ _
 rw [List.nil_append]
 obtain ⟨a, _, rfl, q2⟩ := onH.elim q₁
 obtain ⟨b, _, rfl, q3⟩ := onH.elim q2
 obtain ⟨c, rfl, q4⟩ := onI.elim q3
 ·obtain ⟨⟨rfl, rfl, h0, h9⟩, q5⟩ := q4
  cases hv with | cons h1 r => cases r with | cons h2 r => cases r with | cons h3 r => cases r with | nil => cases h1 with | int a t => cases h2 with | int b u => cases h3 with | int c v =>
   refine call_range_3 (by decide) ?_ (Or.inl (PyProof.noPylong_small (by omega)))
   refine wpAny_pyIter_range (IsRange.new ..) (by
    unfold Builtin.Range.small
    rw [fH h0]
    simp only [Builtin.Range.rangeFitsLong, Bool.and_eq_true, Bool.or_eq_true, decide_eq_true_eq, beq_iff_eq, show ¬ ((-1 : Int) > 0) by decide, if_false]
    simp
    omega) ?_
   have hsz : Builtin.Range.rangeSize a (-1) (-1) = (((a + 1).toNat : Nat) : Int) := by rw [fH h0]; omega
   have hit := vM (C := C) (k := k) hz (s₁.heap.objs.size + 1) a (a + 1).toNat
   have R₂ : RelG C σ₁ { s₁ with heap := (s₁.heap.push { cls := .type "range", data := .fields #[.int a t, .int (-1) u, .int (-1) v] }).push { cls := .type "range_iterator", data := .fields #[rawInt a, rawInt (Builtin.Range.rangeSize a (-1) (-1)), rawInt (-1)] }, toks := s₁.toks } :=
    R₁.grow fun _ _ e => a4 _ _ (a4 _ _ e)
   have e := Heap.get?_push_size (s₁.heap.push { cls := .type "range", data := .fields #[.int a t, .int (-1) u, .int (-1) v] }) (o := { cls := .type "range_iterator", data := .fields #[rawInt a, rawInt (Builtin.Range.rangeSize a (-1) (-1)), rawInt (-1)] }) rfl
   rw [Heap.size_push] at e
   have this := hP _ _ _ _ σ₁ _ hit (by
     show IsRangeIter ((s₁.heap.push { cls := .type "range", data := .fields #[.int a t, .int (-1) u, .int (-1) v] }).push { cls := .type "range_iterator", data := .fields #[rawInt a, rawInt (Builtin.Range.rangeSize a (-1) (-1)), rawInt (-1)] }) _ _ _ _
     unfold IsRangeIter
     rw [e, hsz]; simp) fr hσ R₂ ((S₁.trans .push).trans .push) q5
   rw [Heap.size_push]
   exact this
end
theorem MtAt.mk {C : Cx} (O : C.Ok) {bk N : Addr} {mN : Str → Option Value} (B : Bk C bk N mN) {K : Frag} (KX : K.In C.hB) {f : String} {xs : List String} {j : Nat} {spec : bR} {T : ST} {fa : Addr} {oc : Obj} {fd : FuncData} {body : List Stmt} {sc : Scope}
  (hm : K.lookup fa = some oc ∧ oc.cls = .type "function" ∧ oc.data = .func fd ∧ codeIn K fd.code fd.qualname = true ∧ fd.body = .stmts body ∧ fd.scope = sc ∧ fd.closure = [] ∧ fd.globals = mainGlobals ∧ fd.builtins = builtinsNs) (hn : nsIn K N (Str.ofString f) = some (some (.ref fa)))
  (hk : sc.kind = .function) (hfr : (sc.names.all fun q => q.2 != .free) = true) (hco : sc.isCoroutine = false) (hgen : sc.isGenerator = false) (hlen : True = True)
  (hbind : ∀ (ws : List Value), ws.length = xs.length → bindArgs fd ⟨ws, []⟩ = pure ((xs.map Str.ofString).zip ws))
  (hloc : (xs.all fun x => sc.names.lookup (Str.ofString x) == some .local || sc.names.lookup (Str.ofString x) == some .cell) = true)
  (hT : HS C sc j body T)
  (hspec : ∀ vs σ Q, spec vs σ Q → vs.length = xs.length ∧ T (aG xs vs aN) σ (fin Q)) : MtAt C mN j f spec := by
 obtain ⟨h1, h2, h3, h4, h5, h6, h7, h8, h9⟩ := hm
 refine ⟨fa, oc, fd, ?_, KX _ _ h1, h2, h3, FnSound.mk O (xs := xs) (KX _ _ h1) h3 (codeRec_of KX h4) h5 h6 h7 h8 h9 hk ?_ hco hgen hbind ?_ hT hspec⟩
 ·obtain ⟨o, es, ep, ho, hd, _, hf⟩ := B.cls.ns
  unfold nsIn at hn
  split at hn
  ·rename_i c d es' n' sl q
   have := KX _ _ q
   rw [ho] at this
   cases this
   cases hd
   split at hn
   ·rename_i en he
    have hv := Option.some.inj (Option.some.inj hn)
    rw [← hf, ← hv]
    unfold nsFind findBy
    rw [← Array.find?_toList, he]
    rfl
   ·split at hn <;> cases hn
  ·cases hn
 ·intro q hq
  have := List.all_eq_true.mp hfr q hq
  simpa using this
 ·intro x hx
  have := List.all_eq_true.mp hloc x hx
  simp only [Bool.or_eq_true, beq_iff_eq] at this
  exact this
theorem MtAtX.mk {C : Cx} (O : C.Ok) {bk N : Addr} {mN : Str → Option Value} (B : Bk C bk N mN) {K : Frag} (KX : K.In C.hB) {f : String} {xs : List String} {j : Nat} {spec : d6} {T : bN} {fa : Addr} {oc : Obj} {fd : FuncData} {body : List Stmt} {sc : Scope}
  (hm : K.lookup fa = some oc ∧ oc.cls = .type "function" ∧ oc.data = .func fd ∧ codeIn K fd.code fd.qualname = true ∧ fd.body = .stmts body ∧ fd.scope = sc ∧ fd.closure = [] ∧ fd.globals = mainGlobals ∧ fd.builtins = builtinsNs) (hn : nsIn K N (Str.ofString f) = some (some (.ref fa)))
  (hk : sc.kind = .function) (hfr : (sc.names.all fun q => q.2 != .free) = true) (hco : sc.isCoroutine = false) (hgen : sc.isGenerator = false) (hlen : True = True)
  (hbind : ∀ (ws : List Value), ws.length = xs.length → bindArgs fd ⟨ws, []⟩ = pure ((xs.map Str.ofString).zip ws))
  (hloc : (xs.all fun x => sc.names.lookup (Str.ofString x) == some .local || sc.names.lookup (Str.ofString x) == some .cell) = true)
  (hT : HSX C sc j body T)
  (hspec : ∀ vs σ Q X, spec vs σ Q X → vs.length = xs.length ∧ T (aG xs vs aN) σ (fin Q) (fun c _ σ' => X c σ')) : MtAtX C mN j f spec := by
 obtain ⟨h1, h2, h3, h4, h5, h6, h7, h8, h9⟩ := hm
 refine ⟨fa, oc, fd, ?_, KX _ _ h1, h2, h3, FnSoundX.mk O (xs := xs) (KX _ _ h1) h3 (codeRec_of KX h4) h5 h6 h7 h8 h9 hk ?_ hco hgen hbind ?_ hT hspec⟩
 ·obtain ⟨o, es, ep, ho, hd, _, hf⟩ := B.cls.ns
  unfold nsIn at hn
  split at hn
  ·rename_i c d es' n' sl q
   have := KX _ _ q
   rw [ho] at this
   cases this
   cases hd
   split at hn
   ·rename_i en he
    have hv := Option.some.inj (Option.some.inj hn)
    rw [← hf, ← hv]
    unfold nsFind findBy
    rw [← Array.find?_toList, he]
    rfl
   ·split at hn <;> cases hn
  ·cases hn
 ·intro q hq
  have := List.all_eq_true.mp hfr q hq
  simpa using this
 ·intro x hx
  have := List.all_eq_true.mp hloc x hx
  simp only [Bool.or_eq_true, beq_iff_eq] at this
  exact this
end Mine
namespace Mine
open PySem PySem.W PyProof.Rows PySem.Calls
abbrev uW := aU → ag → (Bool → ag → Prop) → (String → ag → Prop) → Prop
structure HBX (C : Cx) (sc : Scope) (k : Nat) (e : Expr) (T : uW) : Prop where
 run : ∀ (env : Env) (A : Around) (s : Shared) (m : aU) (σ : ag) (Q : Bool → ag → Prop) (X : String → ag → Prop) (P : Bool → Shared → Prop) (E : Value → Shared → Prop),
  EnvOk env sc → AOk C A k → RelG C σ s → FrameRel C env m σ s.heap → FOk C A env σ s.heap → T m σ Q X →
  (∀ b σ' s', RelG C σ' s' → Step no σ σ' s.heap s'.heap → Q b σ' → P b s') → AftXc C σ s X E →
  wpAny (model C.prog C.w) A (isTrue e env (eval e env)) P E s
section
variable {C : Cx} {sc : Scope} {k : Nat}
noncomputable def wO (op : O2) (T : lH) (U : ET) : uW := fun m σ Q X => T m σ (fun a σ₁ => U m σ₁ fun b σ₂ => op a b σ₂ fun v σ₃ => isB v fun x => Q x σ₃) X
theorem HBX.cmp {op : O2} {o : CmpOp} {l r : Expr} {pos : Pos} {T : lH} {U : ET} (hop : hW C k (compareOp o) op) (hl : HEX C sc k l T) (hr : HE C sc k r U) (hm : behindInMarks o r = false) : HBX C sc k (.Compare l [o] [r] pos) (wO op T U) := by
 refine ⟨?_⟩; intro env A s m σ Q X P E en ao R F W q hP hX
 refine wpAny_isTrue_Compare1 ?_ hm
 refine hl.run env A s m σ _ X _ E en ao R F W q (fun a wa σ₁ s₁ va R₁ S₁ q₁ => ?_) hX
 refine hr.run env A s₁ m σ₁ _ _ E en ao R₁ (F.step R S₁) q₁ fun b wb σ₂ s₂ vb R₂ S₂ q₂ => ?_
 refine hop A s₂ σ₂ a b wa wb _ _ E ao R₂ (va.keep (S₂.tupsN R₁)) vb q₂ fun v w σ' s' hv R' S' q' => ?_
 replace q' := isB.elim q'
 obtain ⟨x, rfl, q'⟩ := q'
 cases hv
 exact wpAny_truthy_bool (hP x σ' s' R' ((S₁.trans S₂).trans S') q')
noncomputable def sP (B : uW) (T U : bN) : bN := fun m σ Q X => B m σ (fun b σ' => if b then T m σ' Q X else U m σ' Q X) fun c σ' => X c m σ'
theorem HSX1.iteX {pos : Pos} {test : Expr} {a b : List Stmt} {B : uW} {T U : bN} (hb : HBX C sc k test B) (h1 : HSX C sc k a T) (h2 : HSX C sc k b U) : HSX1 C sc k (.If test a b pos) (sP B T U) := by
 refine ⟨?_⟩; intro env A s m σ Q X P E en ao R F W q hP hX
 refine wpAny_If (hb.run env A s m σ _ _ _ E en ao R F W q (fun b σ₁ s₁ R₁ S₁ q₁ => ?_) (AftXc.of R F hX))
 have S := S₁.own (env := env)
 have hP' : sM C env σ₁ s₁ Q P := fun f g m₂ σ₂ s₂ hf R₂ F₂ S₂ q₂ => hP f g m₂ σ₂ s₂ hf R₂ F₂ (S.trans S₂) q₂
 cases b with
 | true => exact h1.run env A s₁ m σ₁ Q X P E en ao R₁ (F.step R S₁) (W.step S) q₁ hP' (AftX.later hX S)
 | false => exact h2.run env A s₁ m σ₁ Q X P E en ao R₁ (F.step R S₁) (W.step S) q₁ hP' (AftX.later hX S)
@[simp] theorem zI {op : O2} {T : lH} {U : ET} {m : aU} {σ : ag} {Q : Bool → ag → Prop} {X : String → ag → Prop} : wO op T U m σ Q X = T m σ (fun a σ₁ => U m σ₁ fun b σ₂ => op a b σ₂ fun v σ₃ => isB v fun x => Q x σ₃) X := rfl
@[simp] theorem zG {B : uW} {T U : bN} {m : aU} {σ : ag} {Q : Fl → aU → ag → Prop} {X : XT} : sP B T U m σ Q X = B m σ (fun b σ' => if b then T m σ' Q X else U m σ' Q X) fun c σ' => X c m σ' := rfl
end
end Mine
end
noncomputable section
set_option tactic.hygienic false
set_option maxRecDepth 100000
namespace Mine
open PySem PySem.W PyProof.Rows PySem.Calls
theorem vH : typeLookup (.type "list_reverseiterator") "__len__" = pure none := by rw [typeLookup_type, builtinLookup_eq_fast]; kernel_rfl
theorem tV : typeLookup (.type "list_reverseiterator") "__length_hint__" = pure (some (.builtin "list_reverseiterator.__length_hint__")) := by rw [typeLookup_type, builtinLookup_eq_fast]; kernel_rfl
section
variable {prog : Program} {w : World} {A : Around} {E : Value → Shared → Prop} {s : Shared}
theorem uh {r : Addr} {Q : Bool → Shared → Prop} (hT : s.TypeIs (.ref r) "list_reverseiterator") (h : Q false s) : wpAny (model prog w) A (Builtin.List.listLengthHint (.ref r)) Q E s := by
 unfold Builtin.List.listLengthHint
 refine wpAny_bind (wpAny_specialOf hT vH ?_)
 refine wpAny_ite_split (fun hab => absurd hab (by decide)) (fun _ => ?_)
 refine wpAny_ite_split (fun hab => absurd hab (by decide)) (fun _ => ?_)
 refine wpAny_bind (wpAny_specialOf hT tV ?_)
 generalize hid : ("list_reverseiterator.__length_hint__" : String) = id0
 wp_delta
 rw [show splitId id0 = some ("list_reverseiterator", "__length_hint__") from by subst hid; decide +kernel]
 subst hid
 refine wpAny_bind (wpAny_isInstance (T := "list_reverseiterator") (b := true) hT (by rw [isSubtype_type]; kernel_rfl) ?_)
 refine wpAny_ite_split (fun hab => absurd hab (by decide)) (fun _ => ?_)
 refine wpAny_ite_split (fun _ => ?_) (fun hab => absurd (by decide +kernel) hab)
 refine wpAny_ite_split (fun hab => absurd hab (by decide +kernel)) (fun _ => ?_)
 exact wpAny_pure h
theorem tn {Q : Value → Shared → Prop} {I l : Addr} {items : Array Value} (hh : A.handled = none) (hit : s.heap.IsRevIter I l ((items.size : Int) - 1)) (hl : s.heap.IsList l items) (hne : l ≠ I) (hn : items.size ≤ sizeLine)
  (hQ : ∀ h' tk acc' c', (∀ b o, b ≠ I → s.heap.get? b = some o → h'.get? b = some o) → h'.get? s.heap.objs.size = some { cls := .type "list", dict := none, data := .seq acc' c', slots := #[] } → ItemsOf (fun i v => items[items.size - 1 - i]? = some v) acc' items.size → Q (.ref s.heap.objs.size) { s with heap := h', toks := tk }) :
  wpAny (model prog w) A (call (.type "list") [.ref I]) Q E s := by
 refine callType_codes (Q₁ := fun obj s₁ => obj = .ref s.heap.objs.size ∧ s₁ = { s with heap := s.heap.push { cls := .type "list", data := .seq #[] } }) PySem.F.called_list (PySem.F.typeCall_list_1 _) PySem.F.entry_list_init
  (code_list_new _ ⟨rfl, rfl⟩) fun obj s₁ h₁ => ?_
 obtain ⟨rfl, rfl⟩ := h₁
 have hS : (s.heap.push { cls := .type "list", data := .seq #[] }).get? s.heap.objs.size = some { cls := .type "list", data := .seq #[] } := Heap.get?_push_size _ rfl
 have hIlt : I < s.heap.objs.size := let ⟨o, ho, _⟩ := hit; Heap.lt_size ho
 have hllt : l < s.heap.objs.size := let ⟨o, ho, _⟩ := hl; Heap.lt_size ho
 refine ⟨⟨_, hS, rfl⟩, PySem.F.args_list_init_2 _ _, ?_⟩
 generalize hSd : s.heap.objs.size = S at *
 have hSI : S ≠ I := Nat.ne_of_gt hIlt
 have hSl : S ≠ l := Nat.ne_of_gt hllt
 show wpAny _ _ (do let old ← Builtin.List.listItems (.ref S); Builtin.List.listUpdate (.ref S) (fun _ => #[]); letGo old.toList.reverse; Builtin.List.listExtendWith (.ref S) (.ref I) .none) _ _ _
 refine wpAny_bind ?_
 unfold Builtin.List.listItems
 refine wpAny_bind (wpAny_seqItems hS rfl (wpAny_pure ?_))
 show wpAny _ _ (updateSeq S (fun _ => #[]) >>= fun _ => letGo (#[] : Array Value).toList.reverse >>= fun _ => Builtin.List.listExtendWith (.ref S) (.ref I) .none) _ _ _
 refine wpAny_bind (wpAny_updateSeq hS rfl ?_)
 have hS₂ := Heap.get?_update_self (Obj.mapSeq (fun _ => (#[] : Array Value))) hS rfl
 have old : ∀ b o, s.heap.get? b = some o → ((s.heap.push { cls := .type "list", data := .seq #[] }).update S (Obj.mapSeq (fun _ => (#[] : Array Value)))).get? b = some o := fun b o e =>
  (Heap.get?_update_other _ _ (Nat.ne_of_gt (hSd ▸ Heap.lt_size e))).trans (Heap.get?_push_of_some _ e)
 refine wpAny_bind (wpAny_letGo ?_)
 have hit₂ := hit.at fun o e => old I o e
 have hl₂ := hl.at fun o e => old l o e
 unfold Builtin.List.listExtendWith
 refine wpAny_bind (wpAny_typeOf (T := "list_reverseiterator") hit₂.typeIs ?_)
 have h1 : Builtin.List.listSameRef (.ref S) (.ref I) = false := by simp [Builtin.List.listSameRef, hSI]
 have h2 : (Value.type "list_reverseiterator" == Value.type "list") = false := by decide
 have h3 : (Value.type "list_reverseiterator" == Value.type "tuple") = false := by decide
 simp only [h1, h2, h3, Bool.or_false, Bool.false_eq_true, if_false]
 refine wpAny_bind (wpAny_pyIter_revIter hit₂ ?_)
 refine wpAny_bind (wpAny_holding (uh hit₂.typeIs ?_))
 refine wpAny_ite_split (fun hab => absurd hab (by decide +kernel)) (fun _ => wpAny_pure ⟨plainId_quiet PySem.F.plain_extend_loop _, ?_⟩)
 have W := Walks.listRev (prog := prog) (w := w) (A := A.in1.in1) hh I l hne items
 refine codeAny_extend_loopS W.toS hn S (by simp only [List.mem_cons, List.not_mem_nil, or_false, not_or]; exact ⟨hSI, hSl⟩) .none items.size 0 _ #[] _ rfl (Nat.zero_le _) ⟨Nat.zero_le _, by simpa using hit₂, hl₂⟩ hS₂ (ItemsOf.nil _) fun s' acc' c' hm hS' hacc => ?_
 rw [Moved.eq_with hm]
 refine ⟨rfl, hQ s'.heap s'.toks acc' c' (fun b o hb e => hm.heap b o (fun hmem => ?_) (old b o e)) hS' hacc⟩
 rcases List.mem_cons.mp hmem with e' | hmem
 ·exact absurd (Heap.lt_size e) (by rw [e', hSd]; exact Nat.lt_irrefl _)
 ·exact hb (List.mem_singleton.mp hmem)
end
section
variable {C : Cx} {p : Program} {sc : Scope} {k : Nat}
theorem xY : bootBuiltins (Str.ofString "reversed") = some (.type "reversed") := by decide +kernel
noncomputable def kS (T : ET) : ET := fun m σ Q => T m σ fun v σ₁ => ∃ a xs, v = .ref a ∧ σ₁ a = some (.list xs) ∧ cJ xs.reverse σ₁ Q
theorem qB (G : Gl C p) (hpl : C.held = Option.none) (hrev : C.mg (Str.ofString "reversed") = Option.none) {np pos np2 cp : Pos} {o : Expr} {T : ET} (hn : sc.names.lookup (Str.ofString "list") = some .globalImplicit) (hn2 : sc.names.lookup (Str.ofString "reversed") = some .globalImplicit) (ho : HE C sc k o T) (hs : eU o = true) :
  HE C sc k (.Call (.Name (Str.ofString "list") np) [.Call (.Name (Str.ofString "reversed") np2) [o] [] cp] [] pos) (kS T) := by
 refine ⟨?_⟩; intro env A s m σ Q P E en ao R F q hP
 have O := G.ok
 refine wpAny_Call_NameR (Calls.Name_function_global en.k (en.of hn) (Calls.loadGlobal_builtin (mg := C.mg) (mb := C.mb) (by rw [en.globals]; exact O.g.keeps R.base) (G.free _ (by decide)) (by rw [en.builtins]; exact O.b.keeps R.base) (G.blt nj (by decide)) ?_) rfl)
 refine PySem.callWith_type (a9 rfl) (aY rfl ?_)
 show wpAny _ A (spliced ((false, eval (.Call (.Name (Str.ofString "reversed") np2) [o] [] cp) env) :: backTo pos (starEach [] env))) _ E s
 refine Calls.spliced_cons ?_
 refine wpAny_Call_NameR (Calls.Name_function_global en.k (en.of hn2) (Calls.loadGlobal_builtin (mg := C.mg) (mb := C.mb) (by rw [en.globals]; exact O.g.keeps R.base) hrev (by rw [en.builtins]; exact O.b.keeps R.base) (G.blt xY (by decide)) ?_) rfl)
 have hpa : aD [o] = true := by simp [aD, hs]
 refine PySem.callWith_type (a9 hpa) (aY hpa ?_)
 rw [bz hs]
 show wpAny _ A (spliced ((false, eval o env) :: backTo cp (starEach [] env))) _ E s
 refine Calls.spliced_cons (ho.run env A s m σ _ _ E en ao R F q fun v w σ₁ s₁ hv R₁ S₁ q₁ => ?_)
 obtain ⟨a, xs, rfl, hx, q₁⟩ := q₁
 cases hv
 obtain ⟨hz, us, h1, h2⟩ := R₁.view _ _ hx
 have hl := h2.length
 refine Calls.spliced_nil ?_
 show wpAny _ A (PySem.call (.type "reversed") [.ref a]) _ E s₁
 refine call_reversed_list h1.isList ?_
 refine Calls.spliced_nil ?_
 show wpAny _ A (PySem.call (.type "list") [.ref s₁.heap.objs.size]) P E _
 have hao : a < s₁.heap.objs.size := let ⟨o, ho, _⟩ := h1.isList; Heap.lt_size ho
 refine a7 (tn (items := us.toArray) (ao.none hpl) ⟨_, Heap.get?_push_size _ rfl, rfl, rfl⟩ (h1.isList.at fun o e => Heap.get?_push_of_some _ e) (Nat.ne_of_lt hao) (by rw [sizeLine_eq, List.size_toArray, ← hl]; exact hz) fun h' tk acc c hk hD hacc => ?_)
 intro hsz
 have hsp : (s₁.heap.push (revObj a ((us.toArray.size : Int) - 1))).objs.size = s₁.heap.objs.size + 1 := Heap.size_push _ _
 have hk' : ∀ b o, s₁.heap.get? b = some o → h'.get? b = some o := fun b o e => hk b o (Nat.ne_of_lt (Heap.lt_size e)) (Heap.get?_push_of_some _ e)
 have hkt : a0 s₁.heap h' := fun b o e _ => hk' b o e
 have rel : VRels C.aS h' xs.reverse acc.toList := by
  refine i3 _ _ (by rw [Array.length_toList, hacc.1]; simp [hl]) fun j v w e1 e2 => ?_
  have e3 := hacc.2 j w (by rw [← Array.getElem?_toList]; exact e2)
  have hj : j < xs.length := by
   have := (List.getElem?_eq_some_iff.mp e1).1
   simpa using this
  rw [List.getElem?_reverse hj] at e1
  obtain ⟨w', e4, e5⟩ := h2.get e1
  rw [List.size_toArray, ← hl, List.getElem?_toArray, e4] at e3
  cases e3
  exact e5.keep hkt
 have hn2 : s₁.heap.get? (s₁.heap.objs.size + 1) = Option.none := aB (Nat.le_succ _)
 have hsz' : s₁.heap.objs.size ≤ h'.objs.size := by
  have h9 : (s₁.heap.push (revObj a ((us.toArray.size : Int) - 1))).objs.size ≤ h'.objs.size := hsz
  omega
 have hD' := hD
 rw [hsp] at hD' ⊢
 exact hP (.ref _) _ (a8 σ₁ (s₁.heap.objs.size + 1) (.list xs.reverse)) _ (.ref _) (R₁.add (tk := tk) hk' hn2 ⟨by simpa using hz, acc.toList, ⟨c, by simpa using hD'⟩, rel⟩) (S₁.trans (.add hk' hsz' (Nat.le_succ _))) (q₁ _ (R₁.freshNone hn2))
end
noncomputable def isC (d : Data) (f : ClassData → Bool) : Bool := match d with | .cls c => f c | _ => false
theorem isC.elim {d : Data} {f : ClassData → Bool} (h : isC d f = true) : ∃ c, d = .cls c ∧ f c = true := by
 cases d <;> first | exact Bool.noConfusion h | exact ⟨_, rfl, h⟩
noncomputable def hd1 {α : Type} (l : List α) (f : α → List α → Bool) : Bool := match l with | [] => false | a :: r => f a r
theorem hd1.elim {α : Type} {l : List α} {f : α → List α → Bool} (h : hd1 l f = true) : ∃ a r, l = a :: r ∧ f a r = true := by
 cases l with
 | nil => exact Bool.noConfusion h
 | cons a r => exact ⟨a, r, rfl, h⟩
noncomputable def AS (K : Frag) (Cl N : Addr) (cd : ClassData) : Bool := cd.mro == [.ref Cl, .type "object"] && cd.hasDict && !cd.abstract && !cd.hasDel && cd.ns == N && nsOkIn K N && ["__getattribute__", "__getattr__", "__setattr__", "trees", "made_of"].all (fun n => nsIn K N (Str.ofString n) == some none)
noncomputable def bkS (l : List (Option Value)) : Bool := hd1 l fun _ l => hd1 l fun _ l => hd1 l fun _ l => hd1 l fun _ l => hd1 l fun n l => n == some (.builtin "object.__new__") && hd1 l fun _ l => l.isEmpty
theorem bkS.elim {l : List (Option Value)} (h : bkS l = true) : ∃ k0 k1 k2 k3 k5, l = [k0, k1, k2, k3, some (.builtin "object.__new__"), k5] := by
 obtain ⟨k0, _, rfl, h0⟩ := hd1.elim h
 obtain ⟨k1, _, rfl, h1⟩ := hd1.elim h0
 obtain ⟨k2, _, rfl, h2⟩ := hd1.elim h1
 obtain ⟨k3, _, rfl, h3⟩ := hd1.elim h2
 obtain ⟨k4, _, rfl, h4⟩ := hd1.elim h3
 have h5 := (Bool.and_eq_true _ _).mp h4
 obtain ⟨k5, _, rfl, h6⟩ := hd1.elim h5.2
 rw [List.isEmpty_iff.mp h6, beq_iff_eq.mp h5.1]
 exact ⟨k0, k1, k2, k3, k5, rfl⟩
noncomputable def zB (K : Frag) (Cl N : Addr) : Bool := (K.lookup Cl).any fun o => o.cls == .type "type" && isC o.data (AS K Cl N) && bkS o.slots.toList
theorem uH {C : Cx} {K : Frag} {Cl N : Addr} (X : K.In C.hB) (q : zB K Cl N = true) (hg : C.mg (Str.ofString "Book") = some (.ref Cl)) : ∃ mN, Bk C Cl N mN := by
 obtain ⟨⟨c, dd, d, ⟨sl⟩⟩, ho, q⟩ := (Option.any_eq_true _ _).mp q
 rw [Bool.and_eq_true, Bool.and_eq_true, beq_iff_eq] at q
 obtain ⟨⟨q1, q2⟩, q3⟩ := q
 obtain ⟨cd, rfl, q⟩ := isC.elim q2
 obtain ⟨k0, k1, k2, k3, k5, rfl⟩ := bkS.elim q3
 cases q1
 obtain ⟨nm, bs, mro, ns, qn, hd, sn, sub, ab, col, AR⟩ := cd
 unfold AS at q
 simp only [Bool.and_eq_true, beq_iff_eq, Bool.not_eq_true'] at q
 obtain ⟨⟨⟨⟨⟨⟨rfl, rfl⟩, rfl⟩, rfl⟩, rfl⟩, hok⟩, hni⟩ := q
 exact ⟨_, hg, ⟨⟨nm, qn, bs, sn, sub, col, dd, k0, k1, k2, k3, k5, X _ _ ho⟩, .of_isNs (isNs_of_in X hok)⟩, fun n hn => nsMap_none_of_in X hok (beq_iff_eq.mp (List.all_eq_true.mp hni n hn))⟩
end Mine
end
noncomputable section
set_option tactic.hygienic false
namespace Mine
open PySem PySem.W PyProof.Rows PySem.Calls
noncomputable def nr (x : String) (v : V) (σ : ag) (Q : V → ag → Prop) : Prop := ∃ a dx fs t, v = .ref a ∧ σ a = some (.inst dx) ∧ σ dx = some (.ns fs) ∧ fs.lookup x = some (.ref t) ∧ Q (.ref t) σ
noncomputable def kG (f : String) (v : V) (σ : ag) : Prop := ∃ a dx fs, v = .ref a ∧ σ a = some (.inst dx) ∧ σ dx = some (.ns fs) ∧ fs.lookup f = none
noncomputable def s5 (v : V) (σ : ag) (Q : V → ag → Prop) : Prop := ∃ a kvs ep, v = .ref a ∧ σ a = some (.idict kvs ep) ∧ kvs.length < 64 ∧ cJ ((lL (kvs.map (·.1))).map .int) σ Q
noncomputable def listRev (v : V) (σ : ag) (Q : V → ag → Prop) : Prop := ∃ a xs, v = .ref a ∧ σ a = some (.list xs) ∧ cJ xs.reverse σ Q
noncomputable def wE (x : String) (v o : V) (σ : ag) (F : ag → Prop) : Prop := ∃ a dx fs, o = .ref a ∧ σ a = some (.inst dx) ∧ σ dx = some (.ns fs) ∧ fs.length < 1000 ∧ F (a8 σ dx (.ns ((x, v) :: fs)))
section
variable {m : aU} {σ : ag} {Q : V → ag → Prop} {X : String → ag → Prop} {R : Fl → aU → ag → Prop} {J : List V → (ag → Prop) → ag → Prop} {ns : List Int}
@[simp] theorem zu {x : String} {T : ET} : dM x T m σ Q = T m σ fun v σ' => nr x v σ' Q := rfl
@[simp] theorem yE {f : String} {spec : bR} {T : ET} {L : LT} : be f spec T L m σ Q = T m σ fun v σ₁ => kG f v σ₁ ∧ L m σ₁ fun vs σ₂ => spec (v :: vs) σ₂ Q := rfl
@[simp] theorem ym {f : String} {spec : d6} {T : ET} {L : LT} : j1 f spec T L m σ Q X = T m σ fun v σ₁ => kG f v σ₁ ∧ L m σ₁ fun vs σ₂ => spec (v :: vs) σ₂ Q X := rfl
@[simp] theorem yY {x : String} {T To : ET} : qP x T To m σ R = T m σ fun v σ₁ => To m σ₁ fun o σ₂ => wE x v o σ₂ fun σ₃ => R .next m σ₃ := rfl
theorem n5 {x : String} {v : V} {a dx : Addr} {fs : List (String × V)} {F : ag → Prop} (h1 : σ a = some (.inst dx)) (h2 : σ dx = some (.ns fs)) (h3 : fs.length < 1000) (q : F (a8 σ dx (.ns ((x, v) :: fs)))) : wE x v (.ref a) σ F := ⟨a, dx, fs, rfl, h1, h2, h3, q⟩
@[simp] theorem z8 {spec : bR} : xR spec m σ Q = ∀ a dx, σ a = none → σ dx = none → dx ≠ a → spec [.ref a] (a8 (a8 σ dx (.ns [])) a (.inst dx)) fun r σ' => r = .none ∧ Q (.ref a) σ' := rfl
noncomputable def wI (v : V) (F : Int → Prop) : Prop := ∃ i, v = .int i ∧ F i
@[simp] theorem yA (i : Int) (F : Int → Prop) : wI (.int i) F = F i := propext ⟨fun ⟨_, e, h⟩ => by cases e; exact h, fun h => ⟨i, rfl, h⟩⟩
noncomputable def zm (v : V) (F : Str → Prop) : Prop := ∃ i, v = .str i ∧ F i
@[simp] theorem yz (i : Str) (F : Str → Prop) : zm (.str i) F = F i := propext ⟨fun ⟨_, e, h⟩ => by cases e; exact h, fun h => ⟨i, rfl, h⟩⟩
@[simp] theorem xS {T U : ET} : jT T U m σ Q = T m σ fun v σ₁ => U m σ₁ fun u σ₂ => wI v fun i => zd [(i, u)] σ₂ Q := rfl
@[simp] theorem xQ {T : ET} : nf T m σ Q = T m σ fun v σ₁ => s5 v σ₁ Q := rfl
theorem pJ {a : Addr} {kvs : List (Int × V)} {ep : Nat} (h : σ a = some (.idict kvs ep)) (hz : kvs.length < 64) (q : cJ ((lL (kvs.map (·.1))).map .int) σ Q) : s5 (.ref a) σ Q := ⟨a, kvs, ep, rfl, h, hz, q⟩
@[simp] theorem wM {T : ET} : kS T m σ Q = T m σ fun v σ₁ => listRev v σ₁ Q := rfl
theorem tj {a : Addr} {xs : List V} (h : σ a = some (.list xs)) (q : cJ xs.reverse σ Q) : listRev (.ref a) σ Q := ⟨a, xs, rfl, h, q⟩
@[simp] theorem zn {L : LT} : uf L m σ J = L m σ fun vs σ' => qm vs σ' J := rfl
@[simp] theorem Av {a b c : Int} : qm [.int a, .int b, .int c] σ J = ((b = -1 ∧ c = -1 ∧ 0 ≤ a ∧ a < 1000000) ∧ J (my a) (fun _ => True) σ) := rfl
theorem lX {a : Addr} {kvs : List (Int × V)} {ep : Nat} {x : Int} {v : V} {R : ag → Prop} (h : σ a = some (.idict kvs ep)) (hz : kvs.length < 16777216) (q : ∀ ep', R (a8 σ a (.idict (cq kvs x v) ep'))) : vh (.ref a) (.int x) v σ R := ⟨kvs, ep, h, hz, q⟩
theorem oB {a : Addr} {kvs : List (Int × V)} {ep : Nat} {x : Int} (h : σ a = some (.idict kvs ep)) (q : Q (.bool (cf kvs x).isSome) σ) : qU (.int x) (.ref a) σ Q := ⟨kvs, ep, h, q⟩
theorem oi {a : Addr} {kvs : List (Int × V)} {ep : Nat} {x : Int} (h : σ a = some (.idict kvs ep)) (q : Q (.bool (!(cf kvs x).isSome)) σ) : kw (.int x) (.ref a) σ Q := ⟨kvs, ep, h, q⟩
theorem p9 {a : Addr} {kvs : List (Int × V)} {ep : Nat} {x : Int} {v : V} (h : σ a = some (.idict kvs ep)) (hv : cf kvs x = some v) (q : Q v σ) : ig (.ref a) (.int x) σ Q := ⟨kvs, ep, v, h, hv, q⟩
theorem tQ {a : Addr} {ys : List Int} (h : σ a = some (.list (ys.map .int))) (hn : 0 < ys.length) (q : ∀ M, M ∈ ys → (∀ b, b ∈ ys → b ≤ M) → Q (.int M) σ) : mW [.ref a] σ Q := ⟨ys, h, hn, q⟩
end
theorem uE {a : Int} {i : Nat} {v : V} (h : (my a)[i]? = some v) : i < (a + 1).toNat ∧ v = .int (a - i) := by
 unfold my at h
 rw [List.getElem?_map] at h
 obtain ⟨j, hj, rfl⟩ := Option.map_eq_some_iff.mp h
 obtain ⟨h1, h2⟩ := List.getElem?_eq_some_iff.mp hj
 simp at h1 h2
 subst h2
 exact ⟨by omega, rfl⟩
theorem uD (a : Int) : (my a).length = (a + 1).toNat := by simp [my]
theorem oE (kvs : List (Int × V)) (x : Int) : (cf kvs x).isSome = decide (x ∈ kvs.map (·.1)) := by
 unfold cf
 rw [Option.isSome_map, Bool.eq_iff_iff, List.find?_isSome]
 simp
theorem cK (kvs : List (Int × V)) (k : Int) (v : V) : ∀ x, x ∈ (cq kvs k v).map (·.1) ↔ x = k ∨ x ∈ kvs.map (·.1) := by
 intro x
 unfold cq
 split
 ·rename_i h
  have e : (kvs.map fun kv => if kv.1 = k then (kv.1, v) else kv).map (·.1) = kvs.map (·.1) := by
   rw [List.map_map]; apply List.map_congr_left; intro q _; simp only [Function.comp]; split <;> rfl
  rw [e]
  have hk : k ∈ kvs.map (·.1) := by
   obtain ⟨q, hq, e⟩ := List.any_eq_true.mp h
   exact List.mem_map.mpr ⟨q, hq, by simpa using e⟩
  constructor
  ·exact .inr
  ·rintro (rfl | h)
   ·exact hk
   ·exact h
 ·simp only [List.map_append, List.mem_append, List.map_cons, List.map_nil, List.mem_singleton]
  constructor
  ·rintro (h | h)
   ·exact .inr h
   ·exact .inl h
  ·rintro (h | h)
   ·exact .inr h
   ·exact .inl h
theorem lK {kvs : List (Int × V)} {k : Int} {v : V} (h : (kvs.map (·.1)).Nodup) : ((cq kvs k v).map (·.1)).Nodup := by
 unfold cq
 split
 ·have e : (kvs.map fun kv => if kv.1 = k then (kv.1, v) else kv).map (·.1) = kvs.map (·.1) := by
   rw [List.map_map]; apply List.map_congr_left; intro q _; simp only [Function.comp]; split <;> rfl
  rw [e]; exact h
 ·rename_i hn
  rw [List.map_append, List.nodup_append]
  refine ⟨h, by simp, ?_⟩
  intro a ha b hb
  simp at hb
  subst hb
  rintro rfl
  obtain ⟨q, hq, e⟩ := List.mem_map.mp ha
  exact hn (List.any_eq_true.mpr ⟨q, hq, by simpa using e⟩)
theorem fO (kvs : List (Int × V)) (k : Int) (v : V) (x : Int) : cf (cq kvs k v) x = if x = k then some v else cf kvs x := by
 unfold cq
 split
 ·rename_i h
  induction kvs with
  | nil => simp at h
  | cons q r ih =>
   unfold cf
   simp only [List.map_cons]
   by_cases hq : q.1 = k
   ·rw [if_pos hq]
    by_cases hx : x = k
    ·rw [if_pos hx, List.find?_cons_of_pos (by simp [hq, hx])]; rfl
    ·rw [if_neg hx, List.find?_cons_of_neg (by simp; intro e; exact hx (e ▸ hq)), List.find?_cons_of_neg (by simp; intro e; exact hx (e ▸ hq))]
     clear ih h
     induction r with
     | nil => rfl
     | cons q' r' ih' =>
      simp only [List.map_cons]
      by_cases hq' : q'.1 = k
      ·rw [if_pos hq', List.find?_cons_of_neg (by simp; intro e; exact hx (e ▸ hq')), List.find?_cons_of_neg (by simp; intro e; exact hx (e ▸ hq'))]; exact ih'
      ·rw [if_neg hq']
       by_cases hx' : q'.1 = x
       ·rw [List.find?_cons_of_pos (by simp [hx']), List.find?_cons_of_pos (by simp [hx'])]
       ·rw [List.find?_cons_of_neg (by simp [hx']), List.find?_cons_of_neg (by simp [hx'])]; exact ih'
   ·rw [if_neg hq]
    have hr : (r.any fun kv => decide (kv.1 = k)) = true := by
     simp only [List.any_cons, Bool.or_eq_true, decide_eq_true_eq] at h
     rcases h with h | h
     ·exact absurd h hq
     ·exact h
    have := ih hr
    unfold cf at this
    by_cases hx : q.1 = x
    ·rw [List.find?_cons_of_pos (by simp [hx]), List.find?_cons_of_pos (by simp [hx]), if_neg (by intro e; exact hq (hx.trans e))]
    ·rw [List.find?_cons_of_neg (by simp [hx]), List.find?_cons_of_neg (by simp [hx])]; exact this
 ·rename_i h
  unfold cf
  rw [List.find?_append]
  by_cases hx : x = k
  ·subst hx
   rw [if_pos rfl]
   have : kvs.find? (fun kv => decide (kv.1 = x)) = none := by
    rw [List.find?_eq_none]
    intro q hq e
    exact h (List.any_eq_true.mpr ⟨q, hq, e⟩)
   rw [this]; simp
  ·rw [if_neg hx]
   have : List.find? (fun kv => decide (kv.1 = x)) [(k, v)] = none := by simp; intro e; exact hx e.symm
   rw [this]; simp
end Mine
end
noncomputable section
set_option maxRecDepth 100000
namespace Mine
open PySem PySem.W PyProof.Rows PySem.Calls
section
variable {C : Cx} {p : Program} {sc : Scope} {k : Nat}
end
end Mine
end
noncomputable section
set_option tactic.hygienic false
namespace Mine
open PySem PySem.W PyProof.Rows PySem.Calls
inductive Same2 (F : V → V → Prop) : List V → List V → Prop
 | nil : Same2 F [] []
 | cons {a b : V} {xs ys : List V} (h : F a b) (r : Same2 F xs ys) : Same2 F (a :: xs) (b :: ys)
noncomputable def n7 (a b : V) : Prop := ∃ i, a = .int i ∧ b = .int i
noncomputable def n6 (σ : ag) (F : V → V → Prop) (a b : V) : Prop := ∃ p q xs ys, a = .ref p ∧ b = .ref q ∧ σ p = some (.list xs) ∧ σ q = some (.list ys) ∧ Same2 F xs ys
theorem nu : ∀ (l : List Nat), l.all (fun _ => true) = true
 | [] => rfl
 | _ :: r => nu r
section
variable {C : Cx} {sc : Scope} {k : Nat} {A : Around} {s : Shared} {σ : ag}
noncomputable def sL (C : Cx) (A : Around) (s : Shared) (F : V → V → Prop) : Prop := ∀ a b wa wb, F a b → VRel C.aS s.heap a wa → VRel C.aS s.heap b wb → SeqAt.EqAt A s wa wb true
theorem xM {F : V → V → Prop} (hF : sL C A s F) {xs ys : List V} {ws us : List Value} (h : Same2 F xs ys) : VRels C.aS s.heap xs ws → VRels C.aS s.heap ys us → ws.length = us.length ∧ ∀ (j : Nat) w u, ws[j]? = some w → us[j]? = some u → SeqAt.EqAt A s w u true := by
 induction h generalizing ws us with
 | nil => intro r1 r2; rw [r1.inv0, r2.inv0]; exact ⟨rfl, fun j w u h => nomatch h⟩
 | cons h r ih =>
  intro r1 r2
  obtain ⟨w, ws, rfl, v1, r1⟩ := r1.invC
  obtain ⟨u, us, rfl, v2, r2⟩ := r2.invC
  obtain ⟨e, ih⟩ := ih r1 r2
  refine ⟨congrArg (· + 1) e, fun j w' u' h1 h2 => ?_⟩
  cases j with
  | zero => cases h1; cases h2; exact hF _ _ _ _ h v1 v2
  | succ j => exact ih j w' u' h1 h2
theorem nd {F : V → V → Prop} (hF : sL C A s F) {xs ys : List V} {ws us : List Value} (h : Same2 F xs ys) (r1 : VRels C.aS s.heap xs ws) (r2 : VRels C.aS s.heap ys us) : ws.toArray.size = us.toArray.size ∧ ∀ j (h1 : j < ws.toArray.size) (h2 : j < us.toArray.size), SeqAt.EqAt A s ws.toArray[j] us.toArray[j] ((fun _ => true) j) := by
 obtain ⟨e, he⟩ := xM hF h r1 r2
 exact ⟨e, fun j h1 h2 => he j _ _ (List.getElem?_eq_getElem h1) (List.getElem?_eq_getElem h2)⟩
theorem qj : sL C A s n7 := by
 rintro a b wa wb ⟨i, rfl, rfl⟩ va vb
 obtain ⟨t, rfl⟩ := va.invInt
 obtain ⟨u, rfl⟩ := vb.invInt
 have := SeqAt.EqAt.int_int (A := A) (s := s) i t i u
 rwa [beq_self_eq_true] at this
theorem xO (R : RelG C σ s) {F : V → V → Prop} (hF : sL C A.in1 s F) (hu : A.units < cLine) : sL C A s (n6 σ F) := by
 rintro a b wa wb ⟨p, q, xs, ys, rfl, rfl, hp, hq, h⟩ va vb
 cases va; cases vb
 by_cases e : p = q
 ·subst e; exact SeqAt.EqAt.same _
 ·obtain ⟨_, ws, h1, h2⟩ := R.view _ _ hp
  obtain ⟨_, us, h3, h4⟩ := R.view _ _ hq
  obtain ⟨e1, e2⟩ := nd hF h h2 h4
  have := SeqAt.RcAt.lists h1.isList h3.isList e1 hu e2
  rw [nu] at this
  exact SeqAt.EqAt.of_refs e this
noncomputable def tt : O2 := fun a b σ Q => (n6 σ n7 a b ∨ n6 σ (n6 σ n7) a b ∨ ∃ xs ys, a = .tup xs ∧ b = .tup ys ∧ Same2 n7 xs ys) ∧ Q (.bool false) σ
theorem xh : hW C k (compareOp .NotEq) tt := by
 intro A s σ a b wa wb Q P E ao R va vb q₀ hP
 obtain ⟨h, q⟩ := q₀
 have hu : A.units + 2 < cLine := Nat.lt_of_le_of_lt (Nat.add_le_add (Nat.le_add_right _ _) (by decide)) ao.units
 have u0 : A.units < cLine := Nat.lt_of_le_of_lt (Nat.le_add_right _ 2) hu
 have u1 : A.in1.units < cLine := Nat.lt_of_le_of_lt (Nat.le_succ _) hu
 have fin := hP _ _ σ s (.bool false) R Step.refl q
 have lists : ∀ {F : V → V → Prop}, sL C A.in1 s F → n6 σ F a b → wpAny (model C.prog C.w) A (compareOp .NotEq wa wb) P E s := by
  rintro F hF ⟨p, q, xs, ys, rfl, rfl, hp, hq, h⟩
  cases va; cases vb
  obtain ⟨_, ws, h1, h2⟩ := R.view _ _ hp
  obtain ⟨_, us, h3, h4⟩ := R.view _ _ hq
  obtain ⟨e1, e2⟩ := nd hF h h2 h4
  have := SeqAt.RcNeAt.lists h1.isList h3.isList e1 u0 e2
  rw [nu] at this
  exact this C.prog C.w E P fin
 rcases h with h | h | ⟨xs, ys, rfl, rfl, h⟩
 ·exact lists qj h
 ·exact lists (xO R qj u1) h
 ·cases va with | @tup _ p ws ht hvs => cases vb with | @tup _ q us ht' hus =>
  obtain ⟨e1, e2⟩ := nd (A := A.in1) qj h hvs hus
  have := SeqAt.RcNeAt.tuples ht ht' u0 e2
  rw [nu, e1, beq_self_eq_true] at this
  exact this C.prog C.w E P fin
end
section
variable {σ : ag} {Q : V → ag → Prop}
theorem lY : ∀ (xs : List Int), Same2 n7 (xs.map V.int) (xs.map V.int)
 | [] => .nil
 | x :: r => .cons ⟨x, rfl, rfl⟩ (lY r)
theorem vF (xs : List Int) (q : Q (.bool false) σ) : tt (.tup (xs.map V.int)) (.tup (xs.map V.int)) σ Q := ⟨.inr (.inr ⟨_, _, rfl, rfl, lY xs⟩), q⟩
end
end Mine
end
noncomputable section
set_option tactic.hygienic false
set_option maxRecDepth 100000
namespace Mine
open PySem PySem.W PyProof.Rows PySem.Calls
section
variable {C : Cx} {sc : Scope} {k : Nat} {p : Program} {cs ks : List String} {ad : String → Addr}
noncomputable def nO (cs : List String) (T : bN) (U : ST) : bN := fun m σ Q X => T m σ Q fun c m' σ' => c ∈ cs ∧ U m' σ' Q
theorem HSX1.tryU (G : Gl C p) (hz : C.held = Option.none) (Tb : XTab C cs ks ad) {body : List Stmt} {H : String} {b₀ : Stmt} {suite : List Stmt} {np hpos pos : Pos} {T : bN} {U : ST} (hb : HSX C sc k body T) (hH : H ∈ ks) (hsub : (cs.all fun c => yR c H) = true)
  (hn : sc.names.lookup (Str.ofString H) = some .globalImplicit) (hdb : (Str.ofString H == ("__debug__" : Str)) = false)
  (hs : ∀ (e : Addr) (o : Obj) (vs : Array Value), C.hB.get? e = Option.none → o.isFreed = false → o.data = .fields vs → vs[2]? = some .none → HS (C.hold e o) sc k (b₀ :: suite) U) :
  HSX1 C sc k (.Try body [.ExceptHandler (some (.Name (Str.ofString H) np)) Option.none (b₀ :: suite) hpos] [] [] pos) (nO cs T U) := by
 obtain ⟨hgH, bmH, XH⟩ := Tb.at_ H hH
 have O := G.ok
 refine ⟨?_⟩; intro env A s m σ Q X P E en ao R F W q hP hX
 have hbase : ∀ b o, C.hB.get? b = some o → b < s.heap.objs.size := fun b o e => Heap.lt_size (R.base b o e)
 refine wpAny_Try_except (hb.run env A s m σ _ _ _ _ en ao R F W q (fun f g m₁ σ₁ s₁ hf R₁ F₁ S₁ q₁ => ?_) (fun c e m₁ σ₁ s₁ fl R₁ F₁ S₁ x => ?_))
 ·cases hf with
  | next => exact wpAny_execs_nil (hP _ _ m₁ σ₁ s₁ .next R₁ F₁ S₁ q₁)
  | brk => exact hP _ _ m₁ σ₁ s₁ .brk R₁ F₁ S₁ q₁
  | cont => exact hP _ _ m₁ σ₁ s₁ .cont R₁ F₁ S₁ q₁
  | ret hv => exact hP _ _ m₁ σ₁ s₁ (.ret hv) R₁ F₁ S₁ q₁
 ·obtain ⟨hc, x⟩ := x
  obtain ⟨bm, hg, XCc, _, h5⟩ := Tb.sub c hc
  have hs2 := h5 H hH
  rw [List.all_eq_true.mp hsub c hc] at hs2
  have WW : Way C A env c e σ s.heap m₁ σ₁ s₁ (rY env) := ⟨fl, R₁, F₁, S₁, W.step S₁⟩
  refine WW.note en.k hbase rfl fun s₂ W₂ => ?_
  refine (W₂.mono fun x hx => by rw [hx]; simp).flight en.k hbase fun s₃ W₃ => ?_
  refine wpAny_handleBy_cons (codeAny_handlers_test ?_) (by intro z; cases z)
  obtain ⟨oe, vs, Cl, he, hmg, hcls, hd, h2, h2s, hT⟩ := W₃.fly.obj
  rw [hg] at hmg; cases hmg
  refine Calls.Name_function_global en.k (en.of hn) (Calls.loadGlobal_global (mg := C.mg) (by rw [en.globals]; exact O.g.keeps W₃.rel.base) hgH ?_) hdb
  refine om (XCc.keeps W₃.rel.base) (XH.keeps W₃.rel.base) he hcls ?_
  rw [hs2]
  refine codeAny_handlers_suite ?_
  refine (W₃.mono fun x hx => by rw [hx]; simp).flight en.k hbase fun s₄ W₄ => ?_
  obtain ⟨oe, vs, Cl, he, hmg, hcls, hd, h2, h2s, hT⟩ := W₄.fly.obj
  have hse := W₄.fly.sep
  have hez : C.hB.get? e = Option.none := R.baseNone (aB W₄.fly.new)
  have hof : oe.isFreed = false := Obj.isFreed_of_fields hd
  have R₅' := W₄.rel.hold hez hof he hse
  have F₅' := W₄.frame.hold hez hof he hd
  have ao' : AOk (C.hold e oe) (A.mark (some (.ref e))) k := ⟨rfl, ao.depth, ao.units⟩
  refine (hs e oe vs hez hof hd h2).run env _ s₄ _ σ₁ _ _ _ en ao' R₅' F₅' x fun f g m₆ σ₆ s₆ hf R₆ F₆ S₆ q₆ => ?_
  exact hP f g m₆ σ₆ s₆ hf (R₆.drop hez hof) (F₆.drop hez hof) (W₄.step.trans S₆) q₆
noncomputable def Ad (T : BT) (U : uW) : uW := fun m σ Q X => T m σ fun x σ' => if x then Q true σ' else U m σ' Q X
theorem HBX.or1 {a b : Expr} {pos : Pos} {T : BT} {U : uW} (ha : HB C sc k a T) (hb : HBX C sc k b U) : HBX C sc k (.BoolOp .Or [a, b] pos) (Ad T U) := by
 refine ⟨?_⟩; intro env A s m σ Q X P E en ao R F W q hP hX
 refine wpAny_isTrue_BoolOp (wpAny_allTrue_Or_cons (ha.run env A s m σ _ _ E en ao R F q fun x σ₁ s₁ R₁ S₁ q₁ => ?_))
 cases x with
 | true => simpa using hP true σ₁ s₁ R₁ S₁ (by simpa using q₁)
 | false =>
  simp only [Bool.false_eq_true, if_false] at q₁ ⊢
  refine wpAny_allTrue_Or_cons (hb.run env A s₁ m σ₁ _ X _ E en ao R₁ (F.step R S₁) (W.step S₁.own) q₁ (fun y σ₂ s₂ R₂ S₂ q₂ => ?_) fun c e σ' s' fl R' S' x => hX c e σ' s' (fl.less S₁.size) R' (S₁.trans S') x)
  have := hP y σ₂ s₂ R₂ (S₁.trans S₂) q₂
  cases y with
  | true => simpa using this
  | false => simp only [Bool.false_eq_true, if_false]; exact wpAny_allTrue_Or_nil this
noncomputable def qG (T : lH) : uW := fun m σ Q X => T m σ (fun v σ' => isB v fun b => Q (!b) σ') X
theorem HBX.notV {e : Expr} {pos : Pos} {T : lH} (he : HEX C sc k e T) (hi : ∀ env whole, isTrue e env whole = (do let v ← whole; standAt e.pos; holding [v] (truthy v))) : HBX C sc k (.UnaryOp .Not e pos) (qG T) := by
 refine ⟨?_⟩; intro env A s m σ Q X P E en ao R F W q hP hX
 refine wpAny_isTrue_Not (wpAny_isTrue_value (he.run env A s m σ _ X _ E en ao R F W q (fun v w σ' s' hv R' S' q' => ?_) hX) (hi env _))
 replace q' := q'.elim
 obtain ⟨b, rfl, q'⟩ := q'
 cases hv
 exact wpAny_truthy_bool (hP (!b) σ' s' R' S' q')
variable {bk N : Addr} {mN : Str → Option Value}
noncomputable def sO (f : String) (spec : bR) (T : ET) (U : lH) (V' : ET) : lH := fun m σ Q X => T m σ fun v σ₁ => kG f v σ₁ ∧ U m σ₁ (fun u σ₂ => V' m σ₂ fun w σ₃ => spec [v, u, w] σ₃ Q) X
theorem HEX.mcallA (O : C.Ok) (B : Bk C bk N mN) {f : String} {o e1 e2 : Expr} {apos pos : Pos} {spec : bR} {To T2 : ET} {U : lH} {j : Nat} {y : Option Value} (hf : MtAt C mN j f spec) (hj : j < k) (hB : typeLookup (.type "object") (Str.ofString f) = pure y) (ho : HE C sc k o To) (h1 : HEX C sc k e1 U) (h2 : HE C sc k e2 T2) (hs1 : eU e1 = true) (hs2 : eU e2 = true)
  (hbase : ∀ env, attributeBase o (Str.ofString f) env (eval o env) = eval o env) (hline : (apos.endLine == pos.line) = true) : HEX C sc k (.Call (.Attribute o (Str.ofString f) apos) [e1, e2] [] pos) (sO f spec To U T2) := by
 obtain ⟨fa, of, fd, hmf, hof, hfc, hfd, hS⟩ := hf
 have hp : aD [e1, e2] = true := by simp [aD, hs1, hs2]
 refine ⟨?_⟩; intro env A s m σ Q X P E en ao R F W q hP hX
 rw [arm_eval_Call, hbase]
 refine wpAny_bind (ho.run env A s m σ _ _ E en ao R F q fun v w σ₁ s₁ hv R₁ S₁ q₁ => ?_)
 obtain ⟨⟨a, dx, fs, rfl, ha, hd, hl0⟩, q₁⟩ := q₁
 have hv' := hv
 cases hv'
 refine wpAny_bind (wpAny_standAt ?_)
 have hpos : methodCallPos true o env apos pos = pure pos := by unfold methodCallPos; simp [hline]
 unfold methodCall
 rw [k9 hp (by show 2 < 30; decide)]
 refine wpAny_bind (wpAny_holding ?_)
 show wpAny _ A (getMethod (.ref a) (Str.ofString f) _) _ E s₁
 refine kD B R₁ hmf hof hfc hB ha hd hl0 ?_
 refine wpAny_bind (wpAny_of_eq hpos ?_)
 show wpAny _ A (callWith pos (.ref fa) [.ref a] (backTo pos (starEach [e1, e2] env)) []) P E s₁
 refine Calls.callWith_function (o := of) (fd := fd) (aY hp ?_)
 rw [bz hs1]
 show wpAny _ A (spliced ((false, eval e1 env) :: backTo pos (starEach [e2] env))) _ E s₁
 refine Calls.spliced_cons (h1.run env A s₁ m σ₁ _ X _ E en ao R₁ (F.step R S₁) (W.step S₁.own) q₁ (fun u wu σ₂ s₂ hu R₂ S₂ q₂ => ?_) fun c e σ' s' fl R' S' x => hX c e σ' s' (fl.less S₁.size) R' (S₁.trans S') x)
 rw [bz hs2]
 show wpAny _ A (spliced ((false, eval e2 env) :: backTo pos (starEach [] env))) _ E s₂
 refine Calls.spliced_cons (h2.run env A s₂ m σ₂ _ _ E en ao R₂ ((F.step R S₁).step R₁ S₂) q₂ fun u2 wu2 σ₃ s₃ hu2 R₃ S₃ q₃ => ?_)
 refine Calls.spliced_nil ⟨⟨R₃.base _ _ hof, hfd⟩, ?_⟩
 exact wpAny_call (hS A s₃ σ₃ [.ref a, u, u2] [.ref a, wu, wu2] Q P E (ao.le hj) R₃ (.cons (.ref a) (.cons (hu.keep (S₃.tupsN R₂)) (.cons hu2 .nil))) q₃ fun v w σ' s' hv' R' S' q' => hP v w σ' s' hv' R' (((S₁.trans S₂).trans S₃).trans S') q')
section
variable {m : aU} {σ : ag} {Q : Fl → aU → ag → Prop} {X : XT} {Qb : Bool → ag → Prop} {Qv : V → ag → Prop} {Xe : String → ag → Prop}
@[simp] theorem yK {T : bN} {U : ST} : nO cs T U m σ Q X = T m σ Q fun c m' σ' => c ∈ cs ∧ U m' σ' Q := rfl
@[simp] theorem Ac {T : BT} {U : uW} : Ad T U m σ Qb Xe = T m σ fun x σ' => if x then Qb true σ' else U m σ' Qb Xe := rfl
@[simp] theorem yL {T : lH} : qG T m σ Qb Xe = T m σ (fun v σ' => isB v fun b => Qb (!b) σ') Xe := rfl
@[simp] theorem yM {f : String} {spec : bR} {T V' : ET} {U : lH} : sO f spec T U V' m σ Qv Xe = T m σ fun v σ₁ => kG f v σ₁ ∧ U m σ₁ (fun u σ₂ => V' m σ₂ fun w σ₃ => spec [v, u, w] σ₃ Qv) Xe := rfl
end
end
section
variable {C : Cx} {sc : Scope} {k : Nat} {p : Program}
noncomputable def kP (T : ET) : ET := fun m σ Q => T m σ fun v σ₁ => ∃ a ks, v = .ref a ∧ σ₁ a = some (.list (List.map V.str ks)) ∧ ks.length ≤ 4000 ∧ (uniq ks).length < 64 ∧ cJ ((lF (uniq ks)).map .str) σ₁ Q
theorem nJ (G : Gl C p) (hpl : C.held = Option.none) {np pos np2 cp : Pos} {o : Expr} {T : ET} (hn : sc.names.lookup (Str.ofString "sorted") = some .globalImplicit) (hn2 : sc.names.lookup (Str.ofString "set") = some .globalImplicit) (ho : HE C sc k o T) (hs : eU o = true) :
  HE C sc k (.Call (.Name (Str.ofString "sorted") np) [.Call (.Name (Str.ofString "set") np2) [o] [] cp] [] pos) (kP T) := by
 refine ⟨?_⟩; intro env A s m σ Q P E en ao R F q hP
 have O := G.ok
 refine wpAny_Call_NameR (Calls.Name_function_global en.k (en.of hn) (Calls.loadGlobal_builtin (mg := C.mg) (mb := C.mb) (by rw [en.globals]; exact O.g.keeps R.base) (G.free _ (by decide)) (by rw [en.builtins]; exact O.b.keeps R.base) (G.blt gm (by decide)) ?_) rfl)
 refine Calls.callWith_builtin (a9 rfl) (aY rfl ?_)
 show wpAny _ A (spliced ((false, eval (.Call (.Name (Str.ofString "set") np2) [o] [] cp) env) :: backTo pos (starEach [] env))) _ E s
 refine Calls.spliced_cons ?_
 refine wpAny_Call_NameR (Calls.Name_function_global en.k (en.of hn2) (Calls.loadGlobal_builtin (mg := C.mg) (mb := C.mb) (by rw [en.globals]; exact O.g.keeps R.base) (G.free _ (by decide)) (by rw [en.builtins]; exact O.b.keeps R.base) (G.blt xX (by decide)) ?_) rfl)
 have hpa : aD [o] = true := by simp [aD, hs]
 refine PySem.callWith_type (a9 hpa) (aY hpa ?_)
 rw [bz hs]
 show wpAny _ A (spliced ((false, eval o env) :: backTo cp (starEach [] env))) _ E s
 refine Calls.spliced_cons (ho.run env A s m σ _ _ E en ao R F q fun v w σ₁ s₁ hv R₁ S₁ q₁ => ?_)
 obtain ⟨a, ks, rfl, hx, hk4, h64, q₁⟩ := q₁
 cases hv
 obtain ⟨hz, us, h1, h2⟩ := R₁.view _ _ hx
 refine Calls.spliced_nil ?_
 show wpAny _ A (PySem.call (.type "set") [.ref a]) _ E s₁
 refine a7 (sB (ss := ks) (ao.none hpl) h1.isList (by rw [List.toList_toArray]; exact gO h2) (by show ks.length + 1 < 4096; omega) fun h₂ tk₂ ks₂ hX hm hk₂ => ?_)
 intro hsz₂
 refine Calls.spliced_nil ?_
 show wpAny _ A (PySem.call (.builtin "sorted") [.ref s₁.heap.objs.size]) P E _
 have R₂ : RelG C σ₁ { s₁ with heap := h₂, toks := tk₂ } := R₁.grow (tk := tk₂) hk₂
 have hnd : ks₂.Nodup := let ⟨_, _, _, _, _, _, _, _, _, _, _, _, _, hn⟩ := hX; hn
 have hper : ks₂.Perm (uniq ks) := ji hnd (cg ks) fun z => (hm z).trans ch.symm
 refine fE (ks := uniq ks) ao R₂ (fun R' hR => a7 (oN (by show A.handled = _; exact ao.none hpl) hX fun h' tk d vs ks' hk hs hp => ?_)) h64 q₁
  fun v w σ' s' hv' R' S' q' => hP v w σ' s' hv' R' ((S₁.trans (.grow hk₂ hsz₂)).trans S') q'
 intro hsz
 exact hR h' tk d vs ks' hk hsz hs (hp.trans hper)
@[simp] theorem wL {T : ET} {m : aU} {σ : ag} {Q : V → ag → Prop} : kP T m σ Q = T m σ fun v σ₁ => ∃ a ks, v = .ref a ∧ σ₁ a = some (.list (List.map V.str ks)) ∧ ks.length ≤ 4000 ∧ (uniq ks).length < 64 ∧ cJ ((lF (uniq ks)).map .str) σ₁ Q := rfl
end
end Mine
end
noncomputable section
set_option tactic.hygienic false
namespace Mine
open PySem PySem.W PyProof.Rows PySem.Calls
theorem ik : ∀ {U : List (Str × V)} {x : Str} {v w : V}, (U.map (·.1)).Nodup → (x, v) ∈ U → (x, w) ∈ U → v = w
 | q :: r, x, v, w, h, h1, h2 => by
  have hn := List.nodup_cons.mp h
  rcases List.mem_cons.mp h1 with e1 | g1
  ·rcases List.mem_cons.mp h2 with e2 | g2
   ·rw [← e1] at e2; cases e2; rfl
   ·subst e1; exact absurd (List.mem_map.mpr ⟨_, g2, rfl⟩) hn.1
  ·rcases List.mem_cons.mp h2 with e2 | g2
   ·subst e2; exact absurd (List.mem_map.mpr ⟨_, g1, rfl⟩) hn.1
   ·exact ik hn.2 g1 g2
section
variable {C : Cx} {sc : Scope} {k : Nat} {A : Around} {s : Shared} {σ : ag}
theorem sj {kvs : List (Str × V)} {w2 : List (Str × Value)} (h2 : PRel C.aS s.heap kvs w2) (hs : ∀ z ∈ kvs, ∃ y, z.2 = V.str y) (hn : (kvs.map (·.1)).Nodup) {k1 : List (Str × V)} {w1 : List (Str × Value)} (x : PRel C.aS s.heap k1 w1) : (∀ z ∈ k1, z ∈ kvs) → KeqHits A s w2 w1 true := by
 refine x.ind (P := fun k1 w1 => (∀ z ∈ k1, z ∈ kvs) → KeqHits A s w2 w1 true) (fun _ => .nil) fun k v w r r' hv _ ih hm => ?_
 have hk := hm (k, v) (.head _)
 obtain ⟨y, e⟩ := hs _ hk
 cases e
 obtain ⟨v', g1, g2⟩ := dc (List.mem_map.mpr ⟨_, hk, rfl⟩)
 cases ik hn g2 hk
 obtain ⟨wy, e1, e2⟩ := h2.find g1
 obtain ⟨t, rfl⟩ := hv.invStr
 obtain ⟨u, rfl⟩ := e2.invStr
 have eq := SeqAt.EqAt.str_str (A := A) (s := s) y t y u
 rw [beq_self_eq_true] at eq
 exact .hit e1 eq (ih fun z hz => hm z (.tail _ hz))
noncomputable def tv : O2 := fun a b σ Q => ∃ p q kvs e1 e2, a = .ref p ∧ b = .ref q ∧ σ p = some (.dict kvs e1) ∧ σ q = some (.dict kvs e2) ∧ (∀ z ∈ kvs, ∃ y, z.2 = V.str y) ∧ Q (.bool false) σ
theorem vz (O : C.Ok) : hW C k (compareOp .NotEq) tv := by
 intro A s σ a b wa wb Q P E ao R va vb q₀ hP
 obtain ⟨p, q, kvs, e1, e2, rfl, rfl, hp, hq, hs, qq⟩ := q₀
 cases va; cases vb
 have u0 : A.units < cLine := Nat.lt_of_le_of_lt (Nat.le_trans (Nat.le_add_right _ _) (Nat.le_add_right _ _)) ao.units
 obtain ⟨_, ws, h1, h2⟩ := R.view _ _ hp
 obtain ⟨_, us, h3, h4⟩ := R.view _ _ hq
 have hn : (kvs.map (·.1)).Nodup := by rw [h2.keys]; exact let ⟨_, _, _, _, _, _, _, _, hn⟩ := h1.dictOf; hn
 have el : (!(ws.length == us.length && true)) = false := by rw [← h2.length, ← h4.length, beq_self_eq_true]; rfl
 exact keq_ne (O.noMods (R.apart p (by rw [hp]; simp))) (O.noMods (R.apart q (by rw [hq]; simp))) h1.dictOf h3.dictOf u0 (fun _ => sj h4 hs hn h2 fun z hz => hz) (by rw [el]; exact hP _ _ σ s (.bool false) R Step.refl qq)
end
end Mine
end
noncomputable section
set_option maxRecDepth 100000
set_option maxHeartbeats 0
namespace Mine
namespace Hd
noncomputable section
open PySem PySem.W PyProof.Rows PySem.Calls
theorem topGo_q : topGo = PySem.W.Fast.tw15667345088766844465 := PySem.W.Fast.te15667345088766844465
theorem segRun_q : segRun = PySem.W.Fast.tw14374325043358763698 := PySem.W.Fast.te14374325043358763698
theorem segRunT_q : segRunT = PySem.W.Fast.tw10110043849684766642 := PySem.W.Fast.te10110043849684766642
theorem topRun_q : topRun = PySem.W.Fast.tw14082659384304107361 := PySem.W.Fast.te14082659384304107361
theorem table_q : treeTable = PySem.W.Fast.tw14364793385576792824 := PySem.W.Fast.te14364793385576792824
theorem denote_q : denote = PySem.W.Fast.tw11892475500146522536 := PySem.W.Fast.te11892475500146522536
noncomputable def fA (l : List Stmt) (n : Nat) : Arguments := match l[n]? with | some (.FunctionDef _ a _ _ _ _ _ _ _ _) => a | _ => default
noncomputable def fB (l : List Stmt) (n : Nat) : List Stmt := match l[n]? with | some (.FunctionDef _ _ b _ _ _ _ _ _ _) => b | _ => []
noncomputable def fS (l : List Stmt) (n : Nat) : Scope := match l[n]? with | some (.FunctionDef _ _ _ _ _ _ s _ _ _) => s | _ => default
noncomputable def cB (l : List Stmt) (n : Nat) : List Stmt := match l[n]? with | some (.ClassDef _ _ _ b ..) => b | _ => []
noncomputable def cS (l : List Stmt) (n : Nat) : Scope := match l[n]? with | some (.ClassDef _ _ _ _ _ _ s ..) => s | _ => default
abbrev n : Value := .none
abbrev r (k : Nat) : Value := .ref k
abbrev s (x : Str) (k : Nat) : Value := .str x k
abbrev i (k m : Nat) : Value := .int (Int.ofNat k) m
abbrev z (k : Nat) : Value := .int (Int.ofNat k) 0
abbrev t (x : String) : Value := .type x
abbrev u (x : String) : Value := .builtin x
abbrev ps (a b c d : Nat) : Pos := Pos.mk a b c d
noncomputable def e (P : Params) (x : String) (k : Nat) (v : Value) : DictEntry := .mk (PyData.keyHash P x) (.str (Str.ofString x) k) v
noncomputable def O (x : String) (l : List Value) : Obj := .mk (.type x) none (.fields l.toArray) #[]
noncomputable def T (l : List Value) : Obj := .mk (.type "tuple") none (.seq l.toArray 0) #[]
noncomputable def E (l : List Value) : Obj := .mk .none none (.fields l.toArray) #[]
noncomputable def D (l : List DictEntry) (k : Nat) : Obj := .mk (.type "dict") none (.dict l.toArray k) #[]
noncomputable def K (x y : Str) (k l a f b : Nat) (g : Bool) (v0 v1 v2 v3 : Value) (m : Nat) : Obj := O "code" [s x k, s y (k + 1), s "/claim/cut.py" (k + 2), z l, z a, z 0, z 0, z f, r b, .bool g, z 181, r (b + 1), v0, v1, v2, v3, z m, z l, s "/claim/cut.py" (m + 1)]
noncomputable def G (x y : Str) (l : List Stmt) (k : Nat) : Obj := .mk .none none (.func (.mk x y (fA l k) (.stmts (fB l k)) (fS l k) 0 [] n n n n none n n 0)) #[]
noncomputable def F (x y : Str) (l : List Stmt) (k g : Nat) (v c : Value) : Obj := .mk (.type "function") none (.func (.mk x y (fA l k) (.stmts (fB l k)) (fS l k) g [] n n n v none c n 0)) #[]
noncomputable def M (a b c : Nat) (v : Value) : Obj := .mk (.type "frame") none .plain #[some (r a), some (r b), some (r c), none, some v, none, some (r 0)]
noncomputable def lfe : Life := (@Life.mk [] [] [] 0 [] [] false (@List.toArray @Nat []) [] 0 false false false (0 : Int) [(2000 : Int), (10 : Int), (10 : Int)] false 0 true [] [] 0 false)
noncomputable def dw : Drawn := Drawn.mk 0 0 0 0
noncomputable def ev (l : List Obj) : List Obj × List Obj := List.rec ([], []) (fun x _ ih => (x :: ih.2, ih.1)) l
noncomputable def bt (f : Nat) : List Obj → PySem.W.BT := Nat.rec (fun _ => .nil) (fun _ ih l => List.rec .nil (fun x t _ => .node x (ih (ev t).1) (ih (ev t).2)) l) f
abbrev pw : Program := PySem.Challenge.pw_uf050007_12
abbrev TB : List Stmt := pw.main.body
noncomputable def vw : Program := view pw [0, 2, 3, 4, 5, 6, 7, 8, 9, 11, 12, 13, 14, 15, 16, 17, 19, 20, 21, 22, 23, 24, 26, 27, 29, 31, 32, 33, 34, 35, 36, 37, 38]
noncomputable def env : Env := { scope := pw.main.scope, locals := mainNs, globals := mainNs, cells := [], code := (.ref 13), frame := some 14 }
noncomputable def ann : Option Value := (some (.ref 6))
abbrev cE : Code := .body (behindTheImports pw) env
noncomputable def qq : Pos := (ps 0 0 0 0)
abbrev BB : List Frame := [topFrame qq]
abbrev s0 (w : World) (os : OsState) : Shared := Shared.mk (boot_heap w.params) (@Array.mk GenState []) boot_drawn boot_toks os
noncomputable def eo3 (P : Params) : List DictEntry := [(e P "__name__" 165 (s "law_uf050007_12" 587)), (e P "__doc__" 166 n), (e P "__package__" 167 n), (e P "__loader__" 168 (u "__main__.__loader__#opaque")), (e P "__spec__" 169 n), (e P "__annotations__" 170 (r 6)), (e P "__builtins__" 171 (r 4)), (e P "__file__" 173 (s "/claim/cut.py" 172)), (e P "__cached__" 174 n), (e P "_wall" 193 (r 21)), (e P "RoadError" 213 (r 31)), (e P "NoPath" 229 (r 44)), (e P "NoFile" 245 (r 56)), (e P "InTheWay" 261 (r 68)), (e P "NoClash" 277 (r 80)), (e P "Clashed" 293 (r 92)), (e P "NoVersion" 309 (r 104)), (e P "SameVersion" 325 (r 116)), (e P "SIGNS" 329 (s "abcdefghijklmnopqrstuvwxyzABCDEFGHIJKLMNOPQRSTUVWXYZ0123456789.-_" 328)), (e P "MOST_PARTS" 331 (i 8 330)), (e P "LONGEST_PART" 333 (i 12 332)), (e P "is_part" 341 (r 125)), (e P "is_path" 350 (r 132)), (e P "above" 356 (r 137)), (e P "is_beneath" 364 (r 144)), (e P "all_paths" 378 (r 151)), (e P "marks" 392 (r 158)), (e P "clashing" 398 (r 163)), (e P "standing" 411 (r 170)), (e P "clashes" 417 (r 175)), (e P "joined" 432 (r 182)), (e P "done" 445 (r 189)), (e P "changed" 455 (r 196)), (e P "Book" 586 (r 288)), (e P "_law_sign_by" 595 (r 299)), (e P "_law_path_by" 601 (r 304)), (e P "_law_deeds_by" 614 (r 311)), (e P "_law_is_road" 625 (r 318)), (e P "_law_both_changed" 638 (r 325)), (e P "_law_stands" 655 (r 332)), (e P "_law_joins" 675 (r 339)), (e P "law" 686 (r 346))]
noncomputable def o3_0 (P : Params) : Obj := D ((e P "__name__" 165 (s "threeroad.errors" 194)) :: ((eo3 P).drop 1).take 11) 12
noncomputable def o3_1 (P : Params) : Obj := D ((e P "__name__" 165 (s "threeroad.errors" 194)) :: ((eo3 P).drop 1).take 13) 14
noncomputable def o3_2 (P : Params) : Obj := D ((e P "__name__" 165 (s "threeroad.errors" 194)) :: ((eo3 P).drop 1).take 15) 16
noncomputable def o3_3 (P : Params) : Obj := D ((e P "__name__" 165 (s "threeroad.paths" 326)) :: ((eo3 P).drop 1).take 18) 19
noncomputable def o3_4 (P : Params) : Obj := D ((e P "__name__" 165 (s "threeroad.book" 456)) :: ((eo3 P).drop 1).take 32) 33
noncomputable def o3_5 (P : Params) : Obj := D ((e P "__name__" 165 (s "threeroad.book" 456)) :: ((eo3 P).drop 1).take 33) 34
noncomputable def o3_6 (P : Params) : Obj := D (eo3 P) 42
noncomputable def eo12 : List Value := [(z 1), (z 0), (r 20), (z 5), (z 0), (r 27), (z 7), (z 0), (r 40), (z 9), (z 0), (r 52), (z 11), (z 0), (r 64), (z 13), (z 0), (r 76), (z 15), (z 0), (r 88), (z 17), (z 0), (r 100), (z 19), (z 0), (r 112), (z 25), (z 0), (r 124), (z 32), (z 0), (r 131), (z 40), (z 0), (r 136), (z 43), (z 0), (r 143), (z 46), (z 0), (r 150), (z 52), (z 0), (r 157), (z 68), (z 0), (r 162), (z 70), (z 0), (r 169), (z 80), (z 0), (r 174), (z 88), (z 0), (r 181), (z 111), (z 0), (r 188), (z 126), (z 0), (r 195), (z 132), (z 0), (r 202), (z 202), (z 0), (r 298), (z 204), (z 0), (r 303), (z 217), (z 0), (r 310), (z 227), (z 0), (r 317), (z 234), (z 0), (r 324), (z 243), (z 0), (r 331), (z 263), (z 0), (r 338), (z 295), (z 0), (r 345)]
noncomputable def o12_0 (P : Params) : Obj := E (eo12.take 0)
noncomputable def o12_1 (P : Params) : Obj := E (eo12.take 9)
noncomputable def o12_2 (P : Params) : Obj := E (eo12.take 15)
noncomputable def o12_3 (P : Params) : Obj := E (eo12.take 21)
noncomputable def o12_4 (P : Params) : Obj := E (eo12.take 27)
noncomputable def o12_5 (P : Params) : Obj := E (eo12.take 63)
noncomputable def o12_6 (P : Params) : Obj := E (eo12.take 66)
noncomputable def o12_7 (P : Params) : Obj := E (eo12.take 90)
noncomputable def o31_0 (P : Params) : Obj := (.mk (t "type") none (.cls (.mk "RoadError" [(t "ValueError")] [(r 31), (t "ValueError"), (t "Exception"), (t "BaseException"), (t "object")] 30 "RoadError" true [] [(r 44)] false none false)) (List.toArray [(some (r 22)), none, (some (s "RoadError" 196)), (some (s "RoadError" 204)), (some (u "ValueError.__new__")), (some (.bool true))]))
noncomputable def o31_1 (P : Params) : Obj := (.mk (t "type") none (.cls (.mk "RoadError" [(t "ValueError")] [(r 31), (t "ValueError"), (t "Exception"), (t "BaseException"), (t "object")] 30 "RoadError" true [] [(r 44), (r 56), (r 68)] false none false)) (List.toArray [(some (r 22)), none, (some (s "RoadError" 196)), (some (s "RoadError" 204)), (some (u "ValueError.__new__")), (some (.bool true))]))
noncomputable def o31_2 (P : Params) : Obj := (.mk (t "type") none (.cls (.mk "RoadError" [(t "ValueError")] [(r 31), (t "ValueError"), (t "Exception"), (t "BaseException"), (t "object")] 30 "RoadError" true [] [(r 44), (r 56), (r 68), (r 80), (r 92)] false none false)) (List.toArray [(some (r 22)), none, (some (s "RoadError" 196)), (some (s "RoadError" 204)), (some (u "ValueError.__new__")), (some (.bool true))]))
noncomputable def o31_3 (P : Params) : Obj := (.mk (t "type") none (.cls (.mk "RoadError" [(t "ValueError")] [(r 31), (t "ValueError"), (t "Exception"), (t "BaseException"), (t "object")] 30 "RoadError" true [] [(r 44), (r 56), (r 68), (r 80), (r 92), (r 104), (r 116)] false none false)) (List.toArray [(some (r 22)), none, (some (s "RoadError" 196)), (some (s "RoadError" 204)), (some (u "ValueError.__new__")), (some (.bool true))]))
noncomputable def lz (P : Params) : List Obj := [boot_o_0 P, boot_o_1 P, boot_o_2 P, o3_6 P, boot_o_4 P, boot_o_5 P, boot_o_6 P, boot_o_7 P, boot_o_8 P, boot_o_9 P, boot_o_10 P, T [], o12_7 P, K "<module>" "<module>" 182 1 0 0 11 false n n n n 185, M 13 3 3 (s "__main__" 164), T [], E [], T [(s "k" 190)], T [], G "_wall" "_wall" TB 0, K "_wall" "_wall" 187 1 1 3 15 true n (r 17) (r 18) (r 19) 191, F "_wall" "_wall" TB 0 3 (s "__main__" 164) (r 20), T [(t "ValueError")], O "builtin_function_or_method" [(u "type.__prepare__"), (t "type")], D [(e P "__module__" 203 (s "threeroad.errors" 194)), (e P "__qualname__" 205 (s "RoadError" 204)), (e P "__firstlineno__" 207 (i 5 206)), (e P "__static_attributes__" 208 (r 29))] 4, T [], E [], K "RoadError" "RoadError" 198 5 0 0 25 false n n n n 201, M 27 3 24 (s "threeroad.errors" 194), T [], D [(e P "__module__" 203 (s "threeroad.errors" 194)), (e P "__firstlineno__" 207 (i 5 206)), (e P "__static_attributes__" 208 (r 29)), (e P "__weakref__" 210 (r 32)), (e P "__doc__" 211 n)] 3, o31_3 P, O "getset_descriptor" [(s "__weakref__" 209), (r 31), (u "ExceptionGroup.__weakref__"), n], O "super" [(r 31), (r 31), (r 31)], O "builtin_function_or_method" [(u "object.__init_subclass__"), (r 31)], T [(r 31)], O "builtin_function_or_method" [(u "type.__prepare__"), (t "type")], D [(e P "__module__" 221 (s "threeroad.errors" 194)), (e P "__qualname__" 223 (s "NoPath" 222)), (e P "__firstlineno__" 225 (i 7 224)), (e P "__static_attributes__" 226 (r 42))] 4, T [], E [], K "NoPath" "NoPath" 216 7 0 0 38 false n n n n 219, M 40 3 37 (s "threeroad.errors" 194), T [], D [(e P "__module__" 221 (s "threeroad.errors" 194)), (e P "__firstlineno__" 225 (i 7 224)), (e P "__static_attributes__" 226 (r 42)), (e P "__doc__" 227 n)] 2, (.mk (t "type") none (.cls (.mk "NoPath" [(r 31)] [(r 44), (r 31), (t "ValueError"), (t "Exception"), (t "BaseException"), (t "object")] 43 "NoPath" true [] [] false none false)) (List.toArray [(some (r 35)), none, (some (s "NoPath" 214)), (some (s "NoPath" 222)), (some (u "ValueError.__new__")), (some (.bool true))])), O "super" [(r 44), (r 44), (r 44)], O "builtin_function_or_method" [(u "object.__init_subclass__"), (r 44)], T [(r 31)], O "builtin_function_or_method" [(u "type.__prepare__"), (t "type")], D [(e P "__module__" 237 (s "threeroad.errors" 194)), (e P "__qualname__" 239 (s "NoFile" 238)), (e P "__firstlineno__" 241 (i 9 240)), (e P "__static_attributes__" 242 (r 54))] 4, T [], E [], K "NoFile" "NoFile" 232 9 0 0 50 false n n n n 235, M 52 3 49 (s "threeroad.errors" 194), T [], D [(e P "__module__" 237 (s "threeroad.errors" 194)), (e P "__firstlineno__" 241 (i 9 240)), (e P "__static_attributes__" 242 (r 54)), (e P "__doc__" 243 n)] 2, (.mk (t "type") none (.cls (.mk "NoFile" [(r 31)] [(r 56), (r 31), (t "ValueError"), (t "Exception"), (t "BaseException"), (t "object")] 55 "NoFile" true [] [] false none false)) (List.toArray [(some (r 47)), none, (some (s "NoFile" 230)), (some (s "NoFile" 238)), (some (u "ValueError.__new__")), (some (.bool true))])), O "super" [(r 56), (r 56), (r 56)], O "builtin_function_or_method" [(u "object.__init_subclass__"), (r 56)], T [(r 31)], O "builtin_function_or_method" [(u "type.__prepare__"), (t "type")], D [(e P "__module__" 253 (s "threeroad.errors" 194)), (e P "__qualname__" 255 (s "InTheWay" 254)), (e P "__firstlineno__" 257 (i 11 256)), (e P "__static_attributes__" 258 (r 66))] 4, T [], E [], K "InTheWay" "InTheWay" 248 11 0 0 62 false n n n n 251, M 64 3 61 (s "threeroad.errors" 194), T [], D [(e P "__module__" 253 (s "threeroad.errors" 194)), (e P "__firstlineno__" 257 (i 11 256)), (e P "__static_attributes__" 258 (r 66)), (e P "__doc__" 259 n)] 2, (.mk (t "type") none (.cls (.mk "InTheWay" [(r 31)] [(r 68), (r 31), (t "ValueError"), (t "Exception"), (t "BaseException"), (t "object")] 67 "InTheWay" true [] [] false none false)) (List.toArray [(some (r 59)), none, (some (s "InTheWay" 246)), (some (s "InTheWay" 254)), (some (u "ValueError.__new__")), (some (.bool true))])), O "super" [(r 68), (r 68), (r 68)], O "builtin_function_or_method" [(u "object.__init_subclass__"), (r 68)], T [(r 31)], O "builtin_function_or_method" [(u "type.__prepare__"), (t "type")], D [(e P "__module__" 269 (s "threeroad.errors" 194)), (e P "__qualname__" 271 (s "NoClash" 270)), (e P "__firstlineno__" 273 (i 13 272)), (e P "__static_attributes__" 274 (r 78))] 4, T [], E [], K "NoClash" "NoClash" 264 13 0 0 74 false n n n n 267, M 76 3 73 (s "threeroad.errors" 194), T [], D [(e P "__module__" 269 (s "threeroad.errors" 194)), (e P "__firstlineno__" 273 (i 13 272)), (e P "__static_attributes__" 274 (r 78)), (e P "__doc__" 275 n)] 2, (.mk (t "type") none (.cls (.mk "NoClash" [(r 31)] [(r 80), (r 31), (t "ValueError"), (t "Exception"), (t "BaseException"), (t "object")] 79 "NoClash" true [] [] false none false)) (List.toArray [(some (r 71)), none, (some (s "NoClash" 262)), (some (s "NoClash" 270)), (some (u "ValueError.__new__")), (some (.bool true))])), O "super" [(r 80), (r 80), (r 80)], O "builtin_function_or_method" [(u "object.__init_subclass__"), (r 80)], T [(r 31)], O "builtin_function_or_method" [(u "type.__prepare__"), (t "type")], D [(e P "__module__" 285 (s "threeroad.errors" 194)), (e P "__qualname__" 287 (s "Clashed" 286)), (e P "__firstlineno__" 289 (i 15 288)), (e P "__static_attributes__" 290 (r 90))] 4, T [], E [], K "Clashed" "Clashed" 280 15 0 0 86 false n n n n 283, M 88 3 85 (s "threeroad.errors" 194), T [], D [(e P "__module__" 285 (s "threeroad.errors" 194)), (e P "__firstlineno__" 289 (i 15 288)), (e P "__static_attributes__" 290 (r 90)), (e P "__doc__" 291 n)] 2, (.mk (t "type") none (.cls (.mk "Clashed" [(r 31)] [(r 92), (r 31), (t "ValueError"), (t "Exception"), (t "BaseException"), (t "object")] 91 "Clashed" true [] [] false none false)) (List.toArray [(some (r 83)), none, (some (s "Clashed" 278)), (some (s "Clashed" 286)), (some (u "ValueError.__new__")), (some (.bool true))])), O "super" [(r 92), (r 92), (r 92)], O "builtin_function_or_method" [(u "object.__init_subclass__"), (r 92)], T [(r 31)], O "builtin_function_or_method" [(u "type.__prepare__"), (t "type")], D [(e P "__module__" 301 (s "threeroad.errors" 194)), (e P "__qualname__" 303 (s "NoVersion" 302)), (e P "__firstlineno__" 305 (i 17 304)), (e P "__static_attributes__" 306 (r 102))] 4, T [], E [], K "NoVersion" "NoVersion" 296 17 0 0 98 false n n n n 299, M 100 3 97 (s "threeroad.errors" 194), T [], D [(e P "__module__" 301 (s "threeroad.errors" 194)), (e P "__firstlineno__" 305 (i 17 304)), (e P "__static_attributes__" 306 (r 102)), (e P "__doc__" 307 n)] 2, (.mk (t "type") none (.cls (.mk "NoVersion" [(r 31)] [(r 104), (r 31), (t "ValueError"), (t "Exception"), (t "BaseException"), (t "object")] 103 "NoVersion" true [] [] false none false)) (List.toArray [(some (r 95)), none, (some (s "NoVersion" 294)), (some (s "NoVersion" 302)), (some (u "ValueError.__new__")), (some (.bool true))])), O "super" [(r 104), (r 104), (r 104)], O "builtin_function_or_method" [(u "object.__init_subclass__"), (r 104)], T [(r 31)], O "builtin_function_or_method" [(u "type.__prepare__"), (t "type")], D [(e P "__module__" 317 (s "threeroad.errors" 194)), (e P "__qualname__" 319 (s "SameVersion" 318)), (e P "__firstlineno__" 321 (i 19 320)), (e P "__static_attributes__" 322 (r 114))] 4, T [], E [], K "SameVersion" "SameVersion" 312 19 0 0 110 false n n n n 315, M 112 3 109 (s "threeroad.errors" 194), T [], D [(e P "__module__" 317 (s "threeroad.errors" 194)), (e P "__firstlineno__" 321 (i 19 320)), (e P "__static_attributes__" 322 (r 114)), (e P "__doc__" 323 n)] 2, (.mk (t "type") none (.cls (.mk "SameVersion" [(r 31)] [(r 116), (r 31), (t "ValueError"), (t "Exception"), (t "BaseException"), (t "object")] 115 "SameVersion" true [] [] false none false)) (List.toArray [(some (r 107)), none, (some (s "SameVersion" 310)), (some (s "SameVersion" 318)), (some (u "ValueError.__new__")), (some (.bool true))])), O "super" [(r 116), (r 116), (r 116)], O "builtin_function_or_method" [(u "object.__init_subclass__"), (r 116)], T [], E [], T [(s "text" 337), (s "sign" 338)], T [], G "is_part" "is_part" TB 14, K "is_part" "is_part" 334 25 1 3 119 true n (r 121) (r 122) (r 123) 339, F "is_part" "is_part" TB 14 3 (s "threeroad.paths" 326) (r 124), T [], E [], T [(s "text" 345), (s "parts" 346), (s "part" 347)], T [], G "is_path" "is_path" TB 15, K "is_path" "is_path" 342 32 1 3 126 true n (r 128) (r 129) (r 130) 348, F "is_path" "is_path" TB 15 3 (s "threeroad.paths" 326) (r 131), T [], E [], G "above" "above" TB 16, K "above" "above" 351 40 1 3 133 true n n n (r 135) 354, F "above" "above" TB 16 3 (s "threeroad.paths" 326) (r 136), T [], E [], T [(s "path" 360), (s "upper" 361)], T [], G "is_beneath" "is_beneath" TB 17, K "is_beneath" "is_beneath" 357 43 2 3 138 true n (r 140) (r 141) (r 142) 362, F "is_beneath" "is_beneath" TB 17 3 (s "threeroad.paths" 326) (r 143), T [], E [], T [(s "elder" 370), (s "one" 371), (s "other" 372), (s "found" 373), (s "tree" 374), (s "path" 375)], T [], G "all_paths" "all_paths" TB 19, K "all_paths" "all_paths" 367 46 3 3 145 true n (r 147) (r 148) (r 149) 376, F "all_paths" "all_paths" TB 19 3 (s "threeroad.joining" 365) (r 150), T [], E [], T [(s "elder" 382), (s "one" 383), (s "other" 384), (s "told" 385), (s "path" 386), (s "was" 387), (s "mine" 388), (s "theirs" 389)], T [], G "marks" "marks" TB 20, K "marks" "marks" 379 52 3 3 152 true n (r 154) (r 155) (r 156) 390, F "marks" "marks" TB 20 3 (s "threeroad.joining" 365) (r 157), T [], E [], G "clashing" "clashing" TB 21, K "clashing" "clashing" 393 68 3 3 159 true n n n (r 161) 396, F "clashing" "clashing" TB 21 3 (s "threeroad.joining" 365) (r 162), T [], E [], T [(s "elder" 402), (s "one" 403), (s "other" 404), (s "away" 405), (s "found" 406), (s "path" 407), (s "text" 408)], T [], G "standing" "standing" TB 22, K "standing" "standing" 399 70 3 3 164 true n (r 166) (r 167) (r 168) 409, F "standing" "standing" TB 22 3 (s "threeroad.joining" 365) (r 169), T [], E [], G "clashes" "clashes" TB 23, K "clashes" "clashes" 412 80 3 3 171 true n n n (r 173) 415, F "clashes" "clashes" TB 23 3 (s "threeroad.joining" 365) (r 174), T [], E [], T [(s "elder" 421), (s "one" 422), (s "other" 423), (s "picks" 424), (s "known" 425), (s "clash" 426), (s "path" 427), (s "files" 428), (s "folder" 429)], T [], G "joined" "joined" TB 24, K "joined" "joined" 418 88 4 3 176 true n (r 178) (r 179) (r 180) 430, F "joined" "joined" TB 24 3 (s "threeroad.joining" 365) (r 181), T [], E [], T [(s "tree" 438), (s "deed" 439), (s "path" 440), (s "fresh" 441), (s "other" 442)], T [], G "done" "done" TB 26, K "done" "done" 435 111 2 3 183 true n (r 185) (r 186) (r 187) 443, F "done" "done" TB 26 3 (s "threeroad.trees" 433) (r 188), T [], E [], T [(s "tree" 449), (s "deeds" 450), (s "fresh" 451), (s "deed" 452)], T [], G "changed" "changed" TB 27, K "changed" "changed" 446 126 2 3 190 true n (r 192) (r 193) (r 194) 453, F "changed" "changed" TB 27 3 (s "threeroad.trees" 433) (r 195), T [], O "builtin_function_or_method" [(u "type.__prepare__"), (t "type")], D [(e P "__module__" 465 (s "threeroad.book" 456)), (e P "__qualname__" 467 (s "Book" 466)), (e P "__firstlineno__" 469 (i 132 468)), (e P "__init__" 476 (r 210)), (e P "need" 484 (r 217)), (e P "many" 491 (r 224)), (e P "tree" 499 (r 231)), (e P "parents" 507 (r 238)), (e P "put_down" 516 (r 245)), (e P "grow" 525 (r 252)), (e P "merge" 537 (r 259)), (e P "elders" 548 (r 266)), (e P "nearest" 554 (r 271)), (e P "road" 567 (r 278)), (e P "story" 576 (r 285)), (e P "__static_attributes__" 579 (r 286))] 16, T [], E [(z 134), (z 4), (r 209), (z 138), (z 4), (r 216), (z 142), (z 4), (r 223), (z 145), (z 4), (r 230), (z 149), (z 4), (r 237), (z 153), (z 4), (r 244), (z 158), (z 4), (r 251), (z 162), (z 4), (r 258), (z 171), (z 4), (r 265), (z 180), (z 4), (r 270), (z 184), (z 4), (r 277), (z 199), (z 4), (r 284)], K "Book" "Book" 460 132 0 0 200 false n n n n 463, M 202 3 199 (s "threeroad.book" 456), T [], E [], T [(s "self" 473)], T [], G "__init__" "Book.__init__" (cB TB 29) 0, K "__init__" "Book.__init__" 470 134 1 3 204 true n (r 206) (r 207) (r 208) 474, F "__init__" "Book.__init__" (cB TB 29) 0 3 (s "threeroad.book" 456) (r 209), T [], E [], T [(s "self" 480), (s "number" 481)], T [], G "need" "Book.need" (cB TB 29) 1, K "need" "Book.need" 477 138 2 3 211 true n (r 213) (r 214) (r 215) 482, F "need" "Book.need" (cB TB 29) 1 3 (s "threeroad.book" 456) (r 216), T [], E [], T [(s "self" 488)], T [], G "many" "Book.many" (cB TB 29) 2, K "many" "Book.many" 485 142 1 3 218 true n (r 220) (r 221) (r 222) 489, F "many" "Book.many" (cB TB 29) 2 3 (s "threeroad.book" 456) (r 223), T [], E [], T [(s "self" 495), (s "number" 496)], T [], G "tree" "Book.tree" (cB TB 29) 3, K "tree" "Book.tree" 492 145 2 3 225 true n (r 227) (r 228) (r 229) 497, F "tree" "Book.tree" (cB TB 29) 3 3 (s "threeroad.book" 456) (r 230), T [], E [], T [(s "self" 503), (s "number" 504)], T [], G "parents" "Book.parents" (cB TB 29) 4, K "parents" "Book.parents" 500 149 2 3 232 true n (r 234) (r 235) (r 236) 505, F "parents" "Book.parents" (cB TB 29) 4 3 (s "threeroad.book" 456) (r 237), T [], E [], T [(s "self" 511), (s "tree" 512), (s "parents" 513)], T [], G "put_down" "Book.put_down" (cB TB 29) 5, K "put_down" "Book.put_down" 508 153 3 3 239 true n (r 241) (r 242) (r 243) 514, F "put_down" "Book.put_down" (cB TB 29) 5 3 (s "threeroad.book" 456) (r 244), T [], E [], T [(s "self" 520), (s "parent" 521), (s "deeds" 522)], T [], G "grow" "Book.grow" (cB TB 29) 6, K "grow" "Book.grow" 517 158 3 3 246 true n (r 248) (r 249) (r 250) 523, F "grow" "Book.grow" (cB TB 29) 6 3 (s "threeroad.book" 456) (r 251), T [], E [], T [(s "self" 529), (s "one" 530), (s "other" 531), (s "picks" 532), (s "elder" 533), (s "tree" 534)], T [], G "merge" "Book.merge" (cB TB 29) 7, K "merge" "Book.merge" 526 162 4 3 253 true n (r 255) (r 256) (r 257) 535, F "merge" "Book.merge" (cB TB 29) 7 3 (s "threeroad.book" 456) (r 258), T [], E [], T [(s "self" 541), (s "number" 542), (s "found" 543), (s "k" 544), (s "parent" 545)], T [], G "elders" "Book.elders" (cB TB 29) 8, K "elders" "Book.elders" 538 171 2 3 260 true n (r 262) (r 263) (r 264) 546, F "elders" "Book.elders" (cB TB 29) 8 3 (s "threeroad.book" 456) (r 265), T [], E [], G "nearest" "Book.nearest" (cB TB 29) 9, K "nearest" "Book.nearest" 549 180 3 3 267 true n n n (r 269) 552, F "nearest" "Book.nearest" (cB TB 29) 9 3 (s "threeroad.book" 456) (r 270), T [], E [], T [(s "self" 558), (s "elder" 559), (s "number" 560), (s "came" 561), (s "k" 562), (s "parent" 563), (s "row" 564)], T [], G "road" "Book.road" (cB TB 29) 10, K "road" "Book.road" 555 184 3 3 272 true n (r 274) (r 275) (r 276) 565, F "road" "Book.road" (cB TB 29) 10 3 (s "threeroad.book" 456) (r 277), T [], E [], T [(s "self" 571), (s "number" 572), (s "path" 573)], T [], G "story" "Book.story" (cB TB 29) 11, K "story" "Book.story" 568 199 3 3 279 true n (r 281) (r 282) (r 283) 574, F "story" "Book.story" (cB TB 29) 11 3 (s "threeroad.book" 456) (r 284), T [(s "made_of" 577), (s "trees" 578)], D [(e P "__module__" 465 (s "threeroad.book" 456)), (e P "__firstlineno__" 469 (i 132 468)), (e P "__init__" 476 (r 210)), (e P "need" 484 (r 217)), (e P "many" 491 (r 224)), (e P "tree" 499 (r 231)), (e P "parents" 507 (r 238)), (e P "put_down" 516 (r 245)), (e P "grow" 525 (r 252)), (e P "merge" 537 (r 259)), (e P "elders" 548 (r 266)), (e P "nearest" 554 (r 271)), (e P "road" 567 (r 278)), (e P "story" 576 (r 285)), (e P "__static_attributes__" 579 (r 286)), (e P "__dict__" 581 (r 289)), (e P "__weakref__" 583 (r 290)), (e P "__doc__" 584 n)] 4, (.mk (t "type") none (.cls (.mk "Book" [(t "object")] [(r 288), (t "object")] 287 "Book" true [] [] false none false)) (List.toArray [none, none, (some (s "Book" 458)), (some (s "Book" 466)), (some (u "object.__new__")), (some (.bool true))])), O "getset_descriptor" [(s "__dict__" 580), (r 288), (u "function.__dict__"), (u "function.__dict__#set")], O "getset_descriptor" [(s "__weakref__" 582), (r 288), (u "ExceptionGroup.__weakref__"), n], O "super" [(r 288), (r 288), (r 288)], O "builtin_function_or_method" [(u "object.__init_subclass__"), (r 288)], T [], E [], T [(s "_law_k" 592)], T [], G "_law_sign_by" "_law_sign_by" TB 31, K "_law_sign_by" "_law_sign_by" 589 202 1 3 293 true n (r 295) (r 296) (r 297) 593, F "_law_sign_by" "_law_sign_by" TB 31 3 (s "law_uf050007_12" 587) (r 298), T [], E [], G "_law_path_by" "_law_path_by" TB 32, K "_law_path_by" "_law_path_by" 596 204 2 3 300 true n n n (r 302) 599, F "_law_path_by" "_law_path_by" TB 32 3 (s "law_uf050007_12" 587) (r 303), T [], E [], T [(s "_law_cell" 605), (s "_law_tree" 606), (s "_law_shift" 607), (s "_law_deeds" 608), (s "_law_j" 609), (s "_law_mixed" 610), (s "_law_path" 611)], T [], G "_law_deeds_by" "_law_deeds_by" TB 33, K "_law_deeds_by" "_law_deeds_by" 602 217 3 3 305 true n (r 307) (r 308) (r 309) 612, F "_law_deeds_by" "_law_deeds_by" TB 33 3 (s "law_uf050007_12" 587) (r 310), T [], E [], T [(s "_law_book" 618), (s "_law_road" 619), (s "_law_elder" 620), (s "_law_number" 621), (s "_law_k" 622)], T [], G "_law_is_road" "_law_is_road" TB 34, K "_law_is_road" "_law_is_road" 615 227 4 3 312 true n (r 314) (r 315) (r 316) 623, F "_law_is_road" "_law_is_road" TB 34 3 (s "law_uf050007_12" 587) (r 317), T [], E [], T [(s "_law_clash" 629), (s "_law_elder" 630), (s "_law_one" 631), (s "_law_other" 632), (s "_law_was" 633), (s "_law_left" 634), (s "_law_path" 635)], T [], G "_law_both_changed" "_law_both_changed" TB 35, K "_law_both_changed" "_law_both_changed" 626 234 4 3 319 true n (r 321) (r 322) (r 323) 636, F "_law_both_changed" "_law_both_changed" TB 35 3 (s "law_uf050007_12" 587) (r 324), T [], E [], T [(s "_law_made" 642), (s "_law_elder" 643), (s "_law_one" 644), (s "_law_other" 645), (s "_law_picks" 646), (s "_law_path" 647), (s "_law_was" 648), (s "_law_left" 649), (s "_law_right" 650), (s "_law_due" 651), (s "_law_lower" 652)], T [], G "_law_stands" "_law_stands" TB 36, K "_law_stands" "_law_stands" 639 243 5 3 326 true n (r 328) (r 329) (r 330) 653, F "_law_stands" "_law_stands" TB 36 3 (s "law_uf050007_12" 587) (r 331), T [], E [], T [(s "_law_book" 659), (s "_law_cell" 660), (s "_law_shift" 661), (s "_law_one" 662), (s "_law_other" 663), (s "_law_near" 664), (s "_law_number" 665), (s "_law_elder" 666), (s "_law_left" 667), (s "_law_right" 668), (s "_law_found" 669), (s "_law_clash" 670), (s "_law_picks" 671), (s "_law_made" 672)], T [], G "_law_joins" "_law_joins" TB 37, K "_law_joins" "_law_joins" 656 263 3 3 333 true n (r 335) (r 336) (r 337) 673, F "_law_joins" "_law_joins" TB 37 3 (s "law_uf050007_12" 587) (r 338), T [], E [], T [(s "_law_script" 679), (s "_law_shift" 680), (s "_law_book" 681), (s "_law_cell" 682), (s "_law_parent" 683)], T [], G "law" "law" TB 38, K "law" "law" 676 295 1 3 340 true n (r 342) (r 343) (r 344) 684, F "law" "law" TB 38 3 (s "law_uf050007_12" 587) (r 345)]
noncomputable def ob (P : Params) (a : Nat) : Obj := (lz P).getD a default
noncomputable def hp_a (P : Params) : Heap := Heap.mk ⟨(((lz P).take 15).set 3 (boot_o_3 P)).set 12 (o12_0 P)⟩ lfe
abbrev sl_a (w : World) (os : OsState) : Shared := Shared.mk (hp_a w.params) #[] dw 187 os
noncomputable def tr_b (P : Params) : PySem.W.BT := bt 9 ((((lz P).take 15).set 3 (boot_o_3 P)).set 12 (o12_0 P))
abbrev st_b (w : World) (os : OsState) : SharedT := SharedT.mk (tr_b w.params) 15 lfe #[] dw 187 os
theorem q_pre : ∀ w : World, (fun os => topGo treeTable pw w 11 ann 12 (s0 w os) (topStub pw)) = fun os => some (sl_a w os, Thread.mk (denote treeTable cE) cE (ps 0 0 0 0) BB) := fun w => by rw [topGo_q, table_q, denote_q]; kernel_rfl
theorem q_block : ∀ w : World, (fun os => segRun treeTable pw w 11 ann 1 1 (sl_a w os) (blockOf (behindTheImports pw) env cE (ps 0 0 0 0) BB)) = fun os => some (Flow.next, (st_b w os).abs, cE, (ps 0 0 0 0)) := fun w => by rw [segRun_q, table_q]; kernel_rfl
noncomputable def tr_4 (P : Params) : PySem.W.BT := bt 9 (((((lz P).take 47).set 3 (o3_0 P)).set 12 (o12_1 P)).set 31 (o31_0 P))
abbrev st_4 (w : World) (os : OsState) : SharedT := SharedT.mk (tr_4 w.params) 47 lfe #[] dw 230 os
noncomputable def ss_4 : List Stmt := ((behindTheImports pw).drop 0).take 4
theorem q_4 : ∀ w : World, (fun os => segRunT treeTable pw w 11 ann 1 438 (st_b w os) (piecesOf ss_4 env cE (ps 0 0 0 0) BB)) = fun os => some (Flow.next, st_4 w os, cE, (ps 7 0 8 8)) := fun w => by rw [segRunT_q, table_q]; kernel_rfl
noncomputable def tr_6 (P : Params) : PySem.W.BT := bt 9 (((((lz P).take 71).set 3 (o3_1 P)).set 12 (o12_2 P)).set 31 (o31_1 P))
abbrev st_6 (w : World) (os : OsState) : SharedT := SharedT.mk (tr_6 w.params) 71 lfe #[] dw 262 os
noncomputable def ss_6 : List Stmt := ((behindTheImports pw).drop 4).take 2
theorem q_6 : ∀ w : World, (fun os => segRunT treeTable pw w 11 ann 1 427 (st_4 w os) (piecesOf ss_6 env cE (ps 7 0 8 8) BB)) = fun os => some (Flow.next, st_6 w os, cE, (ps 11 0 12 8)) := fun w => by rw [segRunT_q, table_q]; kernel_rfl
noncomputable def tr_8 (P : Params) : PySem.W.BT := bt 9 (((((lz P).take 95).set 3 (o3_2 P)).set 12 (o12_3 P)).set 31 (o31_2 P))
abbrev st_8 (w : World) (os : OsState) : SharedT := SharedT.mk (tr_8 w.params) 95 lfe #[] dw 294 os
noncomputable def ss_8 : List Stmt := ((behindTheImports pw).drop 6).take 2
theorem q_8 : ∀ w : World, (fun os => segRunT treeTable pw w 11 ann 1 427 (st_6 w os) (piecesOf ss_8 env cE (ps 11 0 12 8) BB)) = fun os => some (Flow.next, st_8 w os, cE, (ps 15 0 16 8)) := fun w => by rw [segRunT_q, table_q]; kernel_rfl
noncomputable def tr_12 (P : Params) : PySem.W.BT := bt 9 ((((lz P).take 119).set 3 (o3_3 P)).set 12 (o12_4 P))
abbrev st_12 (w : World) (os : OsState) : SharedT := SharedT.mk (tr_12 w.params) 119 lfe #[] dw 330 os
noncomputable def ss_12 : List Stmt := ((behindTheImports pw).drop 8).take 4
theorem q_12 : ∀ w : World, (fun os => segRunT treeTable pw w 11 ann 1 445 (st_8 w os) (piecesOf ss_12 env cE (ps 15 0 16 8) BB)) = fun os => some (Flow.next, st_12 w os, cE, (ps 22 0 22 5)) := fun w => by rw [segRunT_q, table_q]; kernel_rfl
noncomputable def tr_29 (P : Params) : PySem.W.BT := bt 9 ((((lz P).take 197).set 3 (o3_4 P)).set 12 (o12_5 P))
abbrev st_29 (w : World) (os : OsState) : SharedT := SharedT.mk (tr_29 w.params) 197 lfe #[] dw 458 os
noncomputable def ss_29 : List Stmt := ((behindTheImports pw).drop 12).take 17
theorem q_29 : ∀ w : World, (fun os => segRunT treeTable pw w 11 ann 1 422 (st_12 w os) (piecesOf ss_29 env cE (ps 22 0 22 5) BB)) = fun os => some (Flow.next, st_29 w os, cE, (ps 131 0 131 8)) := fun w => by rw [segRunT_q, table_q]; kernel_rfl
noncomputable def tr_30 (P : Params) : PySem.W.BT := bt 9 ((((lz P).take 293).set 3 (o3_5 P)).set 12 (o12_6 P))
abbrev st_30 (w : World) (os : OsState) : SharedT := SharedT.mk (tr_30 w.params) 293 lfe #[] dw 587 os
noncomputable def ss_30 : List Stmt := ((behindTheImports pw).drop 29).take 1
theorem q_30 : ∀ w : World, (fun os => segRunT treeTable pw w 11 ann 1 585 (st_29 w os) (piecesOf ss_30 env cE (ps 131 0 131 8) BB)) = fun os => some (Flow.next, st_30 w os, cE, (ps 132 0 200 16)) := fun w => by rw [segRunT_q, table_q]; kernel_rfl
noncomputable def tr_39 (P : Params) : PySem.W.BT := bt 9 (lz P)
abbrev st_39 (w : World) (os : OsState) : SharedT := SharedT.mk (tr_39 w.params) 347 lfe #[] dw 687 os
noncomputable def ss_39 : List Stmt := ((behindTheImports pw).drop 30).take 9
theorem q_39 : ∀ w : World, (fun os => segRunT treeTable pw w 11 ann 1 282 (st_30 w os) (piecesOf ss_39 env cE (ps 132 0 200 16) BB)) = fun os => some (Flow.next, st_39 w os, cE, (ps 295 0 309 15)) := fun w => by rw [segRunT_q, table_q]; kernel_rfl
noncomputable def hp_f (P : Params) : Heap := Heap.mk ⟨lz P⟩ lfe
abbrev sl_f (w : World) (os : OsState) : Shared := Shared.mk (hp_f w.params) #[] dw 687 os
theorem q_fin : ∀ w : World, (fun os => topRun treeTable pw w 11 ann 2 (st_39 w os).abs (Thread.mk (doneF .next) cE (ps 295 0 309 15) BB)) = fun os => some (sl_f w os) := fun w => by rw [topRun_q, table_q]; kernel_rfl
theorem body_eq : behindTheImports pw = (ss_4 ++ (ss_6 ++ (ss_8 ++ (ss_12 ++ (ss_29 ++ (ss_30 ++ (ss_39 ++ ([] : List Stmt)))))))) := by kernel_rfl
theorem q_rest (w : World) (os : OsState) : topRun treeTable pw w 11 ann (Nat.add 438 (Nat.add 427 (Nat.add 427 (Nat.add 445 (Nat.add 422 (Nat.add 585 (Nat.add 282 2))))))) (st_b w os).abs (restOf (ss_4 ++ (ss_6 ++ (ss_8 ++ (ss_12 ++ (ss_29 ++ (ss_30 ++ (ss_39 ++ ([] : List Stmt)))))))) env cE (ps 0 0 0 0) BB) = some (sl_f w os) :=
 (piece_app (tb := treeTable) (p := pw) (w := w) (n₀ := 11) (ann := ann) (env := env) (q := qq) (n := 438) (N := (Nat.add 427 (Nat.add 427 (Nat.add 445 (Nat.add 422 (Nat.add 585 (Nat.add 282 2))))))) (s := (st_b w os).abs) (s' := (st_4 w os).abs) (r := sl_f w os) (l := ss_4) (rest := (ss_6 ++ (ss_8 ++ (ss_12 ++ (ss_29 ++ (ss_30 ++ (ss_39 ++ ([] : List Stmt)))))))) (c := cE) (pos := (ps 0 0 0 0)) (p' := (ps 7 0 8 8)) (segRun_of (congrFun (q_4 w) os))
  (piece_app (tb := treeTable) (p := pw) (w := w) (n₀ := 11) (ann := ann) (env := env) (q := qq) (n := 427) (N := (Nat.add 427 (Nat.add 445 (Nat.add 422 (Nat.add 585 (Nat.add 282 2)))))) (s := (st_4 w os).abs) (s' := (st_6 w os).abs) (r := sl_f w os) (l := ss_6) (rest := (ss_8 ++ (ss_12 ++ (ss_29 ++ (ss_30 ++ (ss_39 ++ ([] : List Stmt))))))) (c := cE) (pos := (ps 7 0 8 8)) (p' := (ps 11 0 12 8)) (segRun_of (congrFun (q_6 w) os))
  (piece_app (tb := treeTable) (p := pw) (w := w) (n₀ := 11) (ann := ann) (env := env) (q := qq) (n := 427) (N := (Nat.add 445 (Nat.add 422 (Nat.add 585 (Nat.add 282 2))))) (s := (st_6 w os).abs) (s' := (st_8 w os).abs) (r := sl_f w os) (l := ss_8) (rest := (ss_12 ++ (ss_29 ++ (ss_30 ++ (ss_39 ++ ([] : List Stmt)))))) (c := cE) (pos := (ps 11 0 12 8)) (p' := (ps 15 0 16 8)) (segRun_of (congrFun (q_8 w) os))
  (piece_app (tb := treeTable) (p := pw) (w := w) (n₀ := 11) (ann := ann) (env := env) (q := qq) (n := 445) (N := (Nat.add 422 (Nat.add 585 (Nat.add 282 2)))) (s := (st_8 w os).abs) (s' := (st_12 w os).abs) (r := sl_f w os) (l := ss_12) (rest := (ss_29 ++ (ss_30 ++ (ss_39 ++ ([] : List Stmt))))) (c := cE) (pos := (ps 15 0 16 8)) (p' := (ps 22 0 22 5)) (segRun_of (congrFun (q_12 w) os))
  (piece_app (tb := treeTable) (p := pw) (w := w) (n₀ := 11) (ann := ann) (env := env) (q := qq) (n := 422) (N := (Nat.add 585 (Nat.add 282 2))) (s := (st_12 w os).abs) (s' := (st_29 w os).abs) (r := sl_f w os) (l := ss_29) (rest := (ss_30 ++ (ss_39 ++ ([] : List Stmt)))) (c := cE) (pos := (ps 22 0 22 5)) (p' := (ps 131 0 131 8)) (segRun_of (congrFun (q_29 w) os))
  (piece_app (tb := treeTable) (p := pw) (w := w) (n₀ := 11) (ann := ann) (env := env) (q := qq) (n := 585) (N := (Nat.add 282 2)) (s := (st_29 w os).abs) (s' := (st_30 w os).abs) (r := sl_f w os) (l := ss_30) (rest := (ss_39 ++ ([] : List Stmt))) (c := cE) (pos := (ps 131 0 131 8)) (p' := (ps 132 0 200 16)) (segRun_of (congrFun (q_30 w) os))
  (piece_app (tb := treeTable) (p := pw) (w := w) (n₀ := 11) (ann := ann) (env := env) (q := qq) (n := 282) (N := 2) (s := (st_30 w os).abs) (s' := (st_39 w os).abs) (r := sl_f w os) (l := ss_39) (rest := ([] : List Stmt)) (c := cE) (pos := (ps 132 0 200 16)) (p' := (ps 295 0 309 15)) (segRun_of (congrFun (q_39 w) os))
  (congrFun (q_fin w) os))))))))
theorem q_run (w : World) (os : OsState) : topRun treeTable pw w 11 ann (Nat.add 12 (Nat.add 1 (Nat.add 438 (Nat.add 427 (Nat.add 427 (Nat.add 445 (Nat.add 422 (Nat.add 585 (Nat.add 282 2))))))))) (s0 w os) (topStub pw) = some (sl_f w os) :=
 go_top (congrFun (q_pre w) os) (piece_block (congrFun (q_block w) os) (by rw [show restOf (behindTheImports pw) env cE (ps 0 0 0 0) BB = restOf (ss_4 ++ (ss_6 ++ (ss_8 ++ (ss_12 ++ (ss_29 ++ (ss_30 ++ (ss_39 ++ ([] : List Stmt)))))))) env cE (ps 0 0 0 0) BB from congrArg (fun b => restOf b env cE (ps 0 0 0 0) BB) body_eq]; exact q_rest w os))
theorem q_le : Nat.ble (Nat.add 12 (Nat.add 1 (Nat.add 438 (Nat.add 427 (Nat.add 427 (Nat.add 445 (Nat.add 422 (Nat.add 585 (Nat.add 282 2))))))))) 6164 = true := by kernel_rfl
theorem q_open : ∀ w : World, (fencedOpening treeTable pw w 6164).map (fun s => (s.heap, s.gens, s.drawn, s.toks)) = some (boot_heap w.params, (@Array.mk GenState []), boot_drawn, boot_toks) := boot_open (by kernel_rfl) (by kernel_rfl) (fun _ => by kernel_rfl)
theorem q_size : ∀ w : World, ((boot_heap w.params).isNs mainGlobals && ((@Array.mk GenState [])).size == 0, (boot_heap w.params).objs.size, (boot_heap w.params).nsMap mainGlobals "__annotations__") = (true, 11, ann) := fun w => by kernel_rfl
noncomputable def ks : List Addr := [0, 1, 2, 3, 4, 5, 6, 7, 9, 10, 11, 13, 14, 15, 17, 18, 20, 21, 22, 23, 24, 25, 27, 28, 29, 30, 31, 32, 33, 34, 35, 36, 37, 38, 40, 41, 42, 43, 44, 45, 46, 47, 48, 49, 50, 52, 53, 54, 55, 56, 57, 58, 59, 60, 61, 62, 64, 65, 66, 67, 68, 69, 70, 71, 72, 73, 74, 76, 77, 78, 79, 80, 81, 82, 83, 84, 85, 86, 88, 89, 90, 91, 92, 93, 94, 95, 96, 97, 98, 100, 101, 102, 103, 104, 105, 106, 107, 108, 109, 110, 112, 113, 114, 115, 116, 117, 118, 119, 121, 122, 124, 125, 126, 128, 129, 131, 132, 133, 136, 137, 138, 140, 141, 143, 144, 145, 147, 148, 150, 151, 152, 154, 155, 157, 158, 159, 162, 163, 164, 166, 167, 169, 170, 171, 174, 175, 176, 178, 179, 181, 182, 183, 185, 186, 188, 189, 190, 192, 193, 195, 196, 197, 198, 199, 200, 202, 203, 204, 206, 207, 209, 210, 211, 213, 214, 216, 217, 218, 220, 221, 223, 224, 225, 227, 228, 230, 231, 232, 234, 235, 237, 238, 239, 241, 242, 244, 245, 246, 248, 249, 251, 252, 253, 255, 256, 258, 259, 260, 262, 263, 265, 266, 267, 270, 271, 272, 274, 275, 277, 278, 279, 281, 282, 284, 285, 286, 287, 288, 289, 290, 291, 292, 293, 295, 296, 298, 299, 300, 303, 304, 305, 307, 308, 310, 311, 312, 314, 315, 317, 318, 319, 321, 322, 324, 325, 326, 328, 329, 331, 332, 333, 335, 336, 338, 339, 340, 342, 343, 345, 346]
noncomputable def kk (P : Params) : Frag := ks.map fun a => (a, (lz P).getD a default)
abbrev NN : Nat := 6164
noncomputable def bkA : Addr := 288
noncomputable def bkN : Addr := 287
noncomputable def fd___init__ (P : Params) : FuncData := match (ob P 210).data with | .func fd => fd | _ => default
theorem m___init__ (P : Params) : (kk P).lookup 210 = some (ob P 210) ∧ (ob P 210).cls = .type "function" ∧ (ob P 210).data = .func (fd___init__ P) ∧ codeIn (kk P) (fd___init__ P).code (fd___init__ P).qualname = true ∧ (fd___init__ P).body = .stmts (fB (cB TB 29) 0) ∧ (fd___init__ P).scope = fS (cB TB 29) 0 ∧ (fd___init__ P).closure = [] ∧ (fd___init__ P).globals = mainGlobals ∧ (fd___init__ P).builtins = builtinsNs := by
 refine ⟨?_, ?_, ?_, ?_, ?_, ?_, ?_, ?_, ?_⟩ <;> kernel_rfl
theorem mn___init__ (P : Params) : nsIn (kk P) bkN (Str.ofString "__init__") = some (some (.ref 210)) := by kernel_rfl
noncomputable def fd_need (P : Params) : FuncData := match (ob P 217).data with | .func fd => fd | _ => default
theorem m_need (P : Params) : (kk P).lookup 217 = some (ob P 217) ∧ (ob P 217).cls = .type "function" ∧ (ob P 217).data = .func (fd_need P) ∧ codeIn (kk P) (fd_need P).code (fd_need P).qualname = true ∧ (fd_need P).body = .stmts (fB (cB TB 29) 1) ∧ (fd_need P).scope = fS (cB TB 29) 1 ∧ (fd_need P).closure = [] ∧ (fd_need P).globals = mainGlobals ∧ (fd_need P).builtins = builtinsNs := by
 refine ⟨?_, ?_, ?_, ?_, ?_, ?_, ?_, ?_, ?_⟩ <;> kernel_rfl
theorem mn_need (P : Params) : nsIn (kk P) bkN (Str.ofString "need") = some (some (.ref 217)) := by kernel_rfl
noncomputable def fd_many (P : Params) : FuncData := match (ob P 224).data with | .func fd => fd | _ => default
theorem m_many (P : Params) : (kk P).lookup 224 = some (ob P 224) ∧ (ob P 224).cls = .type "function" ∧ (ob P 224).data = .func (fd_many P) ∧ codeIn (kk P) (fd_many P).code (fd_many P).qualname = true ∧ (fd_many P).body = .stmts (fB (cB TB 29) 2) ∧ (fd_many P).scope = fS (cB TB 29) 2 ∧ (fd_many P).closure = [] ∧ (fd_many P).globals = mainGlobals ∧ (fd_many P).builtins = builtinsNs := by
 refine ⟨?_, ?_, ?_, ?_, ?_, ?_, ?_, ?_, ?_⟩ <;> kernel_rfl
theorem mn_many (P : Params) : nsIn (kk P) bkN (Str.ofString "many") = some (some (.ref 224)) := by kernel_rfl
noncomputable def fd_tree (P : Params) : FuncData := match (ob P 231).data with | .func fd => fd | _ => default
theorem m_tree (P : Params) : (kk P).lookup 231 = some (ob P 231) ∧ (ob P 231).cls = .type "function" ∧ (ob P 231).data = .func (fd_tree P) ∧ codeIn (kk P) (fd_tree P).code (fd_tree P).qualname = true ∧ (fd_tree P).body = .stmts (fB (cB TB 29) 3) ∧ (fd_tree P).scope = fS (cB TB 29) 3 ∧ (fd_tree P).closure = [] ∧ (fd_tree P).globals = mainGlobals ∧ (fd_tree P).builtins = builtinsNs := by
 refine ⟨?_, ?_, ?_, ?_, ?_, ?_, ?_, ?_, ?_⟩ <;> kernel_rfl
theorem mn_tree (P : Params) : nsIn (kk P) bkN (Str.ofString "tree") = some (some (.ref 231)) := by kernel_rfl
noncomputable def fd_parents (P : Params) : FuncData := match (ob P 238).data with | .func fd => fd | _ => default
theorem m_parents (P : Params) : (kk P).lookup 238 = some (ob P 238) ∧ (ob P 238).cls = .type "function" ∧ (ob P 238).data = .func (fd_parents P) ∧ codeIn (kk P) (fd_parents P).code (fd_parents P).qualname = true ∧ (fd_parents P).body = .stmts (fB (cB TB 29) 4) ∧ (fd_parents P).scope = fS (cB TB 29) 4 ∧ (fd_parents P).closure = [] ∧ (fd_parents P).globals = mainGlobals ∧ (fd_parents P).builtins = builtinsNs := by
 refine ⟨?_, ?_, ?_, ?_, ?_, ?_, ?_, ?_, ?_⟩ <;> kernel_rfl
theorem mn_parents (P : Params) : nsIn (kk P) bkN (Str.ofString "parents") = some (some (.ref 238)) := by kernel_rfl
noncomputable def fd_put_down (P : Params) : FuncData := match (ob P 245).data with | .func fd => fd | _ => default
theorem m_put_down (P : Params) : (kk P).lookup 245 = some (ob P 245) ∧ (ob P 245).cls = .type "function" ∧ (ob P 245).data = .func (fd_put_down P) ∧ codeIn (kk P) (fd_put_down P).code (fd_put_down P).qualname = true ∧ (fd_put_down P).body = .stmts (fB (cB TB 29) 5) ∧ (fd_put_down P).scope = fS (cB TB 29) 5 ∧ (fd_put_down P).closure = [] ∧ (fd_put_down P).globals = mainGlobals ∧ (fd_put_down P).builtins = builtinsNs := by
 refine ⟨?_, ?_, ?_, ?_, ?_, ?_, ?_, ?_, ?_⟩ <;> kernel_rfl
theorem mn_put_down (P : Params) : nsIn (kk P) bkN (Str.ofString "put_down") = some (some (.ref 245)) := by kernel_rfl
noncomputable def fd_grow (P : Params) : FuncData := match (ob P 252).data with | .func fd => fd | _ => default
theorem m_grow (P : Params) : (kk P).lookup 252 = some (ob P 252) ∧ (ob P 252).cls = .type "function" ∧ (ob P 252).data = .func (fd_grow P) ∧ codeIn (kk P) (fd_grow P).code (fd_grow P).qualname = true ∧ (fd_grow P).body = .stmts (fB (cB TB 29) 6) ∧ (fd_grow P).scope = fS (cB TB 29) 6 ∧ (fd_grow P).closure = [] ∧ (fd_grow P).globals = mainGlobals ∧ (fd_grow P).builtins = builtinsNs := by
 refine ⟨?_, ?_, ?_, ?_, ?_, ?_, ?_, ?_, ?_⟩ <;> kernel_rfl
theorem mn_grow (P : Params) : nsIn (kk P) bkN (Str.ofString "grow") = some (some (.ref 252)) := by kernel_rfl
noncomputable def fd_merge (P : Params) : FuncData := match (ob P 259).data with | .func fd => fd | _ => default
theorem m_merge (P : Params) : (kk P).lookup 259 = some (ob P 259) ∧ (ob P 259).cls = .type "function" ∧ (ob P 259).data = .func (fd_merge P) ∧ codeIn (kk P) (fd_merge P).code (fd_merge P).qualname = true ∧ (fd_merge P).body = .stmts (fB (cB TB 29) 7) ∧ (fd_merge P).scope = fS (cB TB 29) 7 ∧ (fd_merge P).closure = [] ∧ (fd_merge P).globals = mainGlobals ∧ (fd_merge P).builtins = builtinsNs := by
 refine ⟨?_, ?_, ?_, ?_, ?_, ?_, ?_, ?_, ?_⟩ <;> kernel_rfl
theorem mn_merge (P : Params) : nsIn (kk P) bkN (Str.ofString "merge") = some (some (.ref 259)) := by kernel_rfl
noncomputable def fd_elders (P : Params) : FuncData := match (ob P 266).data with | .func fd => fd | _ => default
theorem m_elders (P : Params) : (kk P).lookup 266 = some (ob P 266) ∧ (ob P 266).cls = .type "function" ∧ (ob P 266).data = .func (fd_elders P) ∧ codeIn (kk P) (fd_elders P).code (fd_elders P).qualname = true ∧ (fd_elders P).body = .stmts (fB (cB TB 29) 8) ∧ (fd_elders P).scope = fS (cB TB 29) 8 ∧ (fd_elders P).closure = [] ∧ (fd_elders P).globals = mainGlobals ∧ (fd_elders P).builtins = builtinsNs := by
 refine ⟨?_, ?_, ?_, ?_, ?_, ?_, ?_, ?_, ?_⟩ <;> kernel_rfl
theorem mn_elders (P : Params) : nsIn (kk P) bkN (Str.ofString "elders") = some (some (.ref 266)) := by kernel_rfl
noncomputable def fd_nearest (P : Params) : FuncData := match (ob P 271).data with | .func fd => fd | _ => default
theorem m_nearest (P : Params) : (kk P).lookup 271 = some (ob P 271) ∧ (ob P 271).cls = .type "function" ∧ (ob P 271).data = .func (fd_nearest P) ∧ codeIn (kk P) (fd_nearest P).code (fd_nearest P).qualname = true ∧ (fd_nearest P).body = .stmts (fB (cB TB 29) 9) ∧ (fd_nearest P).scope = fS (cB TB 29) 9 ∧ (fd_nearest P).closure = [] ∧ (fd_nearest P).globals = mainGlobals ∧ (fd_nearest P).builtins = builtinsNs := by
 refine ⟨?_, ?_, ?_, ?_, ?_, ?_, ?_, ?_, ?_⟩ <;> kernel_rfl
theorem mn_nearest (P : Params) : nsIn (kk P) bkN (Str.ofString "nearest") = some (some (.ref 271)) := by kernel_rfl
noncomputable def fd_road (P : Params) : FuncData := match (ob P 278).data with | .func fd => fd | _ => default
theorem m_road (P : Params) : (kk P).lookup 278 = some (ob P 278) ∧ (ob P 278).cls = .type "function" ∧ (ob P 278).data = .func (fd_road P) ∧ codeIn (kk P) (fd_road P).code (fd_road P).qualname = true ∧ (fd_road P).body = .stmts (fB (cB TB 29) 10) ∧ (fd_road P).scope = fS (cB TB 29) 10 ∧ (fd_road P).closure = [] ∧ (fd_road P).globals = mainGlobals ∧ (fd_road P).builtins = builtinsNs := by
 refine ⟨?_, ?_, ?_, ?_, ?_, ?_, ?_, ?_, ?_⟩ <;> kernel_rfl
theorem mn_road (P : Params) : nsIn (kk P) bkN (Str.ofString "road") = some (some (.ref 278)) := by kernel_rfl
noncomputable def fd_story (P : Params) : FuncData := match (ob P 285).data with | .func fd => fd | _ => default
theorem m_story (P : Params) : (kk P).lookup 285 = some (ob P 285) ∧ (ob P 285).cls = .type "function" ∧ (ob P 285).data = .func (fd_story P) ∧ codeIn (kk P) (fd_story P).code (fd_story P).qualname = true ∧ (fd_story P).body = .stmts (fB (cB TB 29) 11) ∧ (fd_story P).scope = fS (cB TB 29) 11 ∧ (fd_story P).closure = [] ∧ (fd_story P).globals = mainGlobals ∧ (fd_story P).builtins = builtinsNs := by
 refine ⟨?_, ?_, ?_, ?_, ?_, ?_, ?_, ?_, ?_⟩ <;> kernel_rfl
theorem mn_story (P : Params) : nsIn (kk P) bkN (Str.ofString "story") = some (some (.ref 285)) := by kernel_rfl
theorem openSeen_q : @openSeen = @PySem.W.Fast.tw4187177175401517315 := PySem.W.Fast.te4187177175401517315
theorem imods_q : importedModules = PySem.W.Fast.tw5923862056798008813 := PySem.W.Fast.te5923862056798008813
abbrev rw : OpenLaw := PySem.Challenge.rw_uf050007_12
abbrev Xt : Shared → Bool := fun s => xlAt vw [] s && recOk (RowW.records (OpenRow.toRowW rw.row)) s
abbrev HK : Hook := kHook kk ks (fun _ => by kernel_rfl)
theorem l_1 : ∀ w : World, (fun os => (staticsOk (importedModules pw.main.body) (boot_heap w.params) (hp_f w.params) && namesBound pw (hp_f w.params) && gensDone (sl_f w os) && laidKept (boot_heap w.params) (hp_f w.params))) = fun _ : OsState => true := fun w => by rw [imods_q]; kernel_rfl
theorem l_2 : ∀ w : World, (fun os => openSeen vw [] (importedModules pw.main.body) Xt true (sl_f w os)) = fun _ : OsState => openGood vw [] := fun w => by rw [imods_q, openSeen_q]; kernel_rfl
theorem l_3 : ∀ w : World, (fun os => HK.obs (sl_f w os)) = fun _ : OsState => HK.val w := fun w => by kernel_rfl
theorem left : LeftO pw vw [] Xt HK.obs HK.val NN :=
 LeftO.of_pieces (p := pw) (q := vw) (loose := []) (Xt := Xt) (Yf := HK.obs) (Ya := HK.val) (N := NN) (g0 := true) (H₀ := boot_heap) (H₁ := hp_f) q_open q_size q_run q_le
  fun w => funext fun os => looks_pair (congrFun (l_1 w) os) (looks_pair (congrFun (l_2 w) os) (congrFun (l_3 w) os))
theorem said : rw.wellSaid = true := by
 unfold OpenLaw.wellSaid OpenRow.wellSaid OpenRow.partSaid looksOpen
 repeat' (with_reducible refine look_both ?_ ?_)
 all_goals decide +kernel
theorem hd {d : DefRec} {kwd : List (Str × Expr)} (hdef : defOf vw rw.row.name = some (d, kwd)) (hp : rw.row.prog.theDef rw.row.name = some (d.params, d.body, d.scope)) (hk : kwWritten? d.params.kwonlyargs d.params.kw_defaults = some kwd)
  (call : WalkO vw [] (XL vw []) HK.says rw.row.toRowW d kwd fun f vs => PySem.call f vs) : rw.Holds :=
 holds_law said fun said' =>
  holds_open (q := vw) (loose := []) (Xt := Xt) (XP := XL vw []) (Yf := HK.obs) (Ya := HK.val) (YP := HK.says) (N := NN) left HK.of HK.keeps (fun s e => xl_of s (Bool.and_eq_true_iff.mp e).1) XL.keeps hdef hp hk
   (fun s e => recFacts_of (Bool.and_eq_true_iff.mp e).2) (by rfl) said' (by decide +kernel) ⟨rfl, rfl, rfl, rfl, rfl, by decide +kernel⟩ (by w_witness2) call
end
end Hd
end Mine
end
noncomputable section
namespace Mine
open PySem PySem.W PyProof.Rows PySem.Calls
noncomputable def nL : List String := ["NoPath", "NoFile", "InTheWay", "NoClash", "Clashed", "SameVersion"]
noncomputable def p5 : List String := ["RoadError", "NoPath", "NoFile", "InTheWay", "NoClash", "Clashed", "SameVersion"]
noncomputable def Ab : Str := Str.ofString "abcdefghijklmnopqrstuvwxyzABCDEFGHIJKLMNOPQRSTUVWXYZ0123456789.-_"
noncomputable def bn (k : Int) : Str := ⟨#[(cl Ab).getD (k % 65).toNat 0]⟩
noncomputable def keysOf (kvs : List (Str × V)) : List Str := kvs.map (·.1)
noncomputable def gS (kvs : List (Str × V)) (x : Str) : Option Str := match cX kvs x with | some (.str y) => some y | _ => Option.none
noncomputable def eg : Option Str → V
 | Option.none => .none
 | some y => .str y
noncomputable def fN (w m t : Option Str) : Option Str :=
 if m = t then (if m = w then Option.none else some (Str.ofString "alike")) else if t = w then some (Str.ofString "one") else if m = w then some (Str.ofString "other") else some (Str.ofString "clash")
noncomputable def di (a b c : List (Str × V)) : List Str := lF (uniq (keysOf a ++ keysOf b ++ keysOf c))
noncomputable def kE (a b c : List (Str × V)) : List V := (di a b c).filterMap fun x => (fN (gS a x) (gS b x) (gS c x)).map fun u => V.tup [.str x, .str u]
noncomputable def dL (w m t : Option Str) : Bool := !decide (m = t) && !decide (m = w) && !decide (t = w)
noncomputable def bI (w m t : Option Str) : Option Str := if dL w m t then Option.none else if m = w then t else m
noncomputable def kZ (a b c : List (Str × V)) : List Str := (di a b c).filter fun x => dL (gS a x) (gS b x) (gS c x)
noncomputable def eP (a b c : List (Str × V)) : List (Str × V) := (di a b c).filterMap fun x => (bI (gS a x) (gS b x) (gS c x)).map fun y => (x, .str y)
noncomputable def bB (x : Str) : List Str := (List.range ((Txt.split x (Str.ofString "/")).length - 1)).map fun i => Str.join (Str.ofString "/") ((Txt.split x (Str.ofString "/")).take (i + 1))
noncomputable def w9 (ks : List Str) : List (List Str) := ks.flatMap fun x => ((bB x).filter fun u => decide (u ∈ ks)).map fun u => [u, x]
noncomputable def ct (a b c : List (Str × V)) : List (List Str) := (kZ a b c).map (fun x => [x]) ++ w9 (keysOf (eP a b c))
noncomputable def ib (f : List (Str × V)) (q : Str × V) : List (Str × V) := match q.2 with | .str y => bb f q.1 (.str y) | _ => fw f q.1
noncomputable def bp (f pk : List (Str × V)) : List (Str × V) := pk.foldl ib f
structure Kp (K : List Str) : Prop where
 few : K.length ≤ 18
 len : ∀ x ∈ K, x.length ≤ 200
structure In0 (K : List Str) (kvs : List (Str × V)) : Prop where
 sub : ∀ x ∈ keysOf kvs, x ∈ K
 val : ∀ q ∈ kvs, ∃ y, q.2 = .str y
 nodup : (keysOf kvs).Nodup
structure Inn (K : List Str) (kvs : List (Str × V)) : Prop where
 i0 : In0 K kvs
 fre : ∀ x ∈ keysOf kvs, ∀ y ∈ keysOf kvs, Txt.startswith x (y ++ Str.ofString "/") = false
structure Pk (pk : List (Str × V)) : Prop where
 val : ∀ q ∈ pk, ∃ o, q.2 = eg o
 nodup : (keysOf pk).Nodup
structure OkJ (a b c pk : List (Str × V)) : Prop where
 known : ∀ x ∈ keysOf pk, ∃ l ∈ ct a b c, x ∈ l
 cl : ∀ x ∈ kZ a b c, x ∈ keysOf pk
 fre : ∀ x ∈ keysOf (bp (eP a b c) pk), ∀ u ∈ bB x, u ∉ keysOf (bp (eP a b c) pk)
noncomputable def pS (q : Str × Str) : V := .tup [.str (Str.ofString "put"), .str q.1, .str q.2]
noncomputable def uF (x : Str) : V := .tup [.str (Str.ofString "cut"), .str x]
inductive Deed (K : List Str) : V → Prop
 | put (x y : Str) (h : x ∈ K) : Deed K (pS (x, y))
 | cut (x : Str) (h : x ∈ K) : Deed K (uF x)
noncomputable def lQ (S : List Addr) (σ σ' : ag) : Prop := ∀ b o, σ b = some o → b ∉ S → σ' b = some o
noncomputable def yI (σ : ag) (X : String → ag → Prop) : Prop := ∀ c σ', c ∈ nL → Grow σ σ' → X c σ'
noncomputable def jk (ps : List (List Int)) : List V := ps.map fun p => .tup (p.map .int)
structure Ord (ps : List (List Int)) : Prop where
 two : ∀ (k : Nat) l, ps[k]? = some l → l.length ≤ 2
 lt : ∀ (k : Nat) l, ps[k]? = some l → ∀ p ∈ l, 0 ≤ p ∧ p < (k : Int)
 some : ∀ (k : Nat) l, ps[k]? = Option.some l → 0 < k → l ≠ []
 few : ps.length ≤ 40
 pos : 0 < ps.length
structure BookAt (K : List Str) (σ : ag) (b t mo : Addr) (ads : List Addr) (ts : List (List (Str × V))) (ps : List (List Int)) : Prop where
 obj : ∃ dx, σ b = some (.inst dx) ∧ σ dx = some (.ns [("made_of", .ref mo), ("trees", .ref t)])
 tr : σ t = some (.list (ads.map .ref))
 md : σ mo = some (.list (jk ps))
 ne : t ≠ mo
 len : ads.length = ts.length
 lenP : ps.length = ts.length
 at_ : ∀ (i : Nat) d, ads[i]? = some d → ∃ kvs ep, ts[i]? = some kvs ∧ σ d = some (.dict kvs ep)
 un : Kp K
 tree : ∀ kvs ∈ ts, Inn K kvs
 ord : Ord ps
inductive Anc (ps : List (List Int)) : Int → Int → Prop
 | self (n : Int) : Anc ps n n
 | up {n p x : Int} {l : List Int} : ps[n.toNat]? = some l → p ∈ l → Anc ps p x → Anc ps n x
inductive Road (ps : List (List Int)) (e : Int) : Int → List Int → Prop
 | one : Road ps e e [e]
 | more {n p : Int} {r l : List Int} : Road ps e p r → ps[n.toNat]? = some l → p ∈ l → Road ps e n (r ++ [n])
structure Eld (ps : List (List Int)) (n : Int) (xs : List Int) : Prop where
 lt : xs.Pairwise (· < ·)
 mem : ∀ x, x ∈ xs ↔ Anc ps n x
structure Near (ps : List (List Int)) (n m M : Int) : Prop where
 a1 : Anc ps n M
 a2 : Anc ps m M
 max : ∀ z, Anc ps n z → Anc ps m z → z ≤ M
structure D3 (K : List Str) (a b c : Addr) (ka kb kc : List (Str × V)) (e1 e2 e3 : Nat) (σ : ag) : Prop where
 xa : σ a = some (.dict ka e1)
 xb : σ b = some (.dict kb e2)
 xc : σ c = some (.dict kc e3)
 ta : Inn K ka
 tb : Inn K kb
 tc : Inn K kc
 un : Kp K
noncomputable def kJ (x : Str) : Str := if x = Str.ofString "." then Str.ofString "0x" else x
noncomputable def gF (s : Int) : List Str := [kJ (bn s), kJ (bn (s + 26)), kJ (bn s ++ bn (s + 1))]
noncomputable def de (s : Int) : List Str := if s % 5 = 3 then (List.range (1 + s / 5 % 6).toNat).map fun j => Str.ofString "up" ++ Str.ofString (toString ((j : Nat) : Int)) else []
noncomputable def pY (s : Int) : List (List Str) := (gF s).map (fun x => [x]) ++ (gF s).flatMap fun x => (gF s).map fun y => [x, y]
noncomputable def KS (s : Int) : List Str := ((List.range 6).map fun k => Str.join (Str.ofString "/") ((de s).take (k + 1))) ++ (pY s).map fun l => Str.join (Str.ofString "/") (de s ++ l)
inductive sp_is_part (ns : List Int) (vs : List V) (σ : ag) (Q : V → ag → Prop) : Prop
 | mk (x : _) (h1 : vs = [.str x]) (h2 : x.length ≤ 1000) (h3 : ∀ b : Bool, Q (.bool b) σ) : sp_is_part ns vs σ Q
inductive sp_is_path (ns : List Int) (vs : List V) (σ : ag) (Q : V → ag → Prop) : Prop
 | mk (x : _) (h1 : vs = [.str x]) (h2 : x.length ≤ 1000) (h3 : ∀ (b : Bool) σ', Grow σ σ' → Q (.bool b) σ') : sp_is_path ns vs σ Q
inductive sp_above (ns : List Int) (vs : List V) (σ : ag) (Q : V → ag → Prop) : Prop
 | mk (x : _) (h1 : vs = [.str x]) (h2 : x.length ≤ 300) (h3 : gR ((bB x).map .str) σ Q) : sp_above ns vs σ Q
inductive sp_is_beneath (ns : List Int) (vs : List V) (σ : ag) (Q : V → ag → Prop) : Prop
 | mk (x : _) (y : _) (h1 : vs = [.str x, .str y]) (h2 : y.length ≤ 1000) (h3 : Q (.bool (Txt.startswith x (y ++ Str.ofString "/"))) σ) : sp_is_beneath ns vs σ Q
inductive sp_all_paths (ns : List Int) (vs : List V) (σ : ag) (Q : V → ag → Prop) : Prop
 | mk (K : _) (a : _) (b : _) (c : _) (ka : _) (kb : _) (kc : _) (e1 : _) (e2 : _) (e3 : _) (h1 : vs = [.ref a, .ref b, .ref c]) (h2 : D3 K a b c ka kb kc e1 e2 e3 σ) (h3 : gR ((di ka kb kc).map .str) σ Q) : sp_all_paths ns vs σ Q
inductive sp_marks (ns : List Int) (vs : List V) (σ : ag) (Q : V → ag → Prop) : Prop
 | mk (K : _) (a : _) (b : _) (c : _) (ka : _) (kb : _) (kc : _) (e1 : _) (e2 : _) (e3 : _) (h1 : vs = [.ref a, .ref b, .ref c]) (h2 : D3 K a b c ka kb kc e1 e2 e3 σ) (h3 : gR (kE ka kb kc) σ Q) : sp_marks ns vs σ Q
inductive sp_clashing (ns : List Int) (vs : List V) (σ : ag) (Q : V → ag → Prop) : Prop
 | mk (K : _) (a : _) (b : _) (c : _) (ka : _) (kb : _) (kc : _) (e1 : _) (e2 : _) (e3 : _) (h1 : vs = [.ref a, .ref b, .ref c]) (h2 : D3 K a b c ka kb kc e1 e2 e3 σ) (h3 : gR ((kZ ka kb kc).map .str) σ Q) : sp_clashing ns vs σ Q
inductive sp_standing (ns : List Int) (vs : List V) (σ : ag) (Q : V → ag → Prop) : Prop
 | mk (K : _) (a : _) (b : _) (c : _) (ka : _) (kb : _) (kc : _) (e1 : _) (e2 : _) (e3 : _) (h1 : vs = [.ref a, .ref b, .ref c]) (h2 : D3 K a b c ka kb kc e1 e2 e3 σ) (h3 : ∀ f ep σ', Grow σ σ' → σ f = Option.none → σ' f = some (.dict (eP ka kb kc) ep) → Q (.ref f) σ') : sp_standing ns vs σ Q
inductive sp_clashes (ns : List Int) (vs : List V) (σ : ag) (Q : V → ag → Prop) : Prop
 | mk (K : _) (a : _) (b : _) (c : _) (ka : _) (kb : _) (kc : _) (e1 : _) (e2 : _) (e3 : _) (h1 : vs = [.ref a, .ref b, .ref c]) (h2 : D3 K a b c ka kb kc e1 e2 e3 σ) (h3 : ∀ fs : List (List Str), fs.Perm (ct ka kb kc) → gR (fs.map cT) σ Q) : sp_clashes ns vs σ Q
inductive sp_joined (ns : List Int) (vs : List V) (σ : ag) (Q : V → ag → Prop) (X : String → ag → Prop) : Prop
 | mk (K : _) (a : _) (b : _) (c : _) (ka : _) (kb : _) (kc : _) (e1 : _) (e2 : _) (e3 : _) (p : _) (pk : _) (ep : _) (h1 : vs = [.ref a, .ref b, .ref c, .ref p]) (h2 : D3 K a b c ka kb kc e1 e2 e3 σ) (h3 : σ p = some (.dict pk ep)) (h4 : Pk pk) (h5 : (∀ x ∈ keysOf pk, x ∈ K)) (h6 : (¬ OkJ ka kb kc pk → yI σ X)) (h7 : ∀ f ep' σ', OkJ ka kb kc pk → Grow σ σ' → σ f = Option.none → σ' f = some (.dict (bp (eP ka kb kc) pk) ep') → Q (.ref f) σ') : sp_joined ns vs σ Q X
inductive sp_done (ns : List Int) (vs : List V) (σ : ag) (Q : V → ag → Prop) (X : String → ag → Prop) : Prop
 | mk (K : _) (a : _) (kvs : _) (ep : _) (d : _) (h1 : vs = [.ref a, d]) (h2 : σ a = some (.dict kvs ep)) (h3 : Kp K) (h4 : Inn K kvs) (h5 : Deed K d) (h6 : yI σ X) (h7 : ∀ b kvs' ep' σ', Grow σ σ' → σ b = Option.none → σ' b = some (.dict kvs' ep') → Inn K kvs' → Q (.ref b) σ') : sp_done ns vs σ Q X
inductive sp_changed (ns : List Int) (vs : List V) (σ : ag) (Q : V → ag → Prop) (X : String → ag → Prop) : Prop
 | mk (K : _) (a : _) (L : _) (kvs : _) (ep : _) (dl : _) (h1 : vs = [.ref a, .ref L]) (h2 : σ a = some (.dict kvs ep)) (h3 : σ L = some (.list dl)) (h4 : dl.length ≤ 3) (h5 : Kp K) (h6 : Inn K kvs) (h7 : (∀ d ∈ dl, Deed K d)) (h8 : yI σ X) (h9 : ∀ b kvs' ep' σ', Grow σ σ' → σ b = Option.none → σ' b = some (.dict kvs' ep') → Inn K kvs' → Q (.ref b) σ') : sp_changed ns vs σ Q X
inductive sp___init__ (ns : List Int) (vs : List V) (σ : ag) (Q : V → ag → Prop) : Prop
 | mk (a : _) (dx : _) (h1 : vs = [.ref a]) (h2 : σ a = some (.inst dx)) (h3 : σ dx = some (.ns [])) (h4 : ∀ t mo d0 ep σ', lQ [dx] σ σ' → σ' dx = some (.ns [("made_of", .ref mo), ("trees", .ref t)]) → σ' t = some (.list [.ref d0]) → σ' mo = some (.list [.tup []]) → σ' d0 = some (.dict [] ep) → t ≠ mo → σ t = Option.none → σ mo = Option.none → σ d0 = Option.none → Q .none σ') : sp___init__ ns vs σ Q
inductive sp_need (ns : List Int) (vs : List V) (σ : ag) (Q : V → ag → Prop) : Prop
 | mk (K : _) (b : _) (t : _) (mo : _) (ads : _) (ts : _) (ps : _) (n : _) (h1 : vs = [.ref b, .int n]) (h2 : BookAt K σ b t mo ads ts ps) (h3 : 0 ≤ n) (h4 : n < ts.length) (h5 : Q .none σ) : sp_need ns vs σ Q
inductive sp_many (ns : List Int) (vs : List V) (σ : ag) (Q : V → ag → Prop) : Prop
 | mk (K : _) (b : _) (t : _) (mo : _) (ads : _) (ts : _) (ps : _) (h1 : vs = [.ref b]) (h2 : BookAt K σ b t mo ads ts ps) (h3 : Q (.int ts.length) σ) : sp_many ns vs σ Q
inductive sp_tree (ns : List Int) (vs : List V) (σ : ag) (Q : V → ag → Prop) : Prop
 | mk (K : _) (b : _) (t : _) (mo : _) (ads : _) (ts : _) (ps : _) (n : _) (kvs : _) (h1 : vs = [.ref b, .int n]) (h2 : BookAt K σ b t mo ads ts ps) (h3 : 0 ≤ n) (h4 : ts[n.toNat]? = some kvs) (h5 : ∀ d ep, σ d = Option.none → Q (.ref d) (a8 σ d (.dict kvs ep))) : sp_tree ns vs σ Q
inductive sp_parents (ns : List Int) (vs : List V) (σ : ag) (Q : V → ag → Prop) : Prop
 | mk (K : _) (b : _) (t : _) (mo : _) (ads : _) (ts : _) (ps : _) (n : _) (l : _) (h1 : vs = [.ref b, .int n]) (h2 : BookAt K σ b t mo ads ts ps) (h3 : 0 ≤ n) (h4 : ps[n.toNat]? = some l) (h5 : Q (.tup (l.map .int)) σ) : sp_parents ns vs σ Q
inductive sp_put_down (ns : List Int) (vs : List V) (σ : ag) (Q : V → ag → Prop) : Prop
 | mk (K : _) (b : _) (t : _) (mo : _) (ads : _) (ts : _) (ps : _) (d : _) (kvs : _) (ep : _) (l : _) (h1 : vs = [.ref b, .ref d, .tup (l.map .int)]) (h2 : BookAt K σ b t mo ads ts ps) (h3 : σ d = some (.dict kvs ep)) (h4 : Inn K kvs) (h5 : ts.length < 40) (h6 : l.length ≤ 2) (h7 : l ≠ []) (h8 : (∀ p ∈ l, 0 ≤ p ∧ p < (ts.length : Int))) (h9 : ∀ σ', lQ [t, mo] σ σ' → BookAt K σ' b t mo (ads ++ [d]) (ts ++ [kvs]) (ps ++ [l]) → Q (.int ts.length) σ') : sp_put_down ns vs σ Q
inductive spX_grow (ns : List Int) (vs : List V) (σ : ag) (Q : V → ag → Prop) (X : String → ag → Prop) : Prop
 | mk (K : _) (b : _) (t : _) (mo : _) (ads : _) (ts : _) (ps : _) (n : _) (L : _) (dl : _) (h1 : vs = [.ref b, .int n, .ref L]) (h2 : BookAt K σ b t mo ads ts ps) (h3 : 0 ≤ n) (h4 : n < ts.length) (h5 : σ L = some (.list dl)) (h6 : dl.length ≤ 3) (h7 : (∀ d ∈ dl, Deed K d)) (h8 : ts.length < 40) (h9 : yI σ X) (h10 : ∀ ads' ts' ps' σ', lQ [t, mo] σ σ' → BookAt K σ' b t mo ads' ts' ps' → ts'.length = ts.length + 1 → Q (.int ts.length) σ') : spX_grow ns vs σ Q X
inductive spX_merge (ns : List Int) (vs : List V) (σ : ag) (Q : V → ag → Prop) (X : String → ag → Prop) : Prop
 | mk (K : _) (b : _) (t : _) (mo : _) (ads : _) (ts : _) (ps : _) (n : _) (m : _) (p : _) (pk : _) (ep : _) (M : _) (ke : _) (kn : _) (km : _) (h1 : vs = [.ref b, .int n, .int m, .ref p]) (h2 : BookAt K σ b t mo ads ts ps) (h3 : 0 ≤ n) (h4 : n < ts.length) (h5 : 0 ≤ m) (h6 : m < ts.length) (h7 : σ p = some (.dict pk ep)) (h8 : Pk pk) (h9 : (∀ x ∈ keysOf pk, x ∈ K)) (h10 : Near ps n m M) (h11 : ts[M.toNat]? = some ke) (h12 : ts[n.toNat]? = some kn) (h13 : ts[m.toNat]? = some km) (h14 : ts.length < 40) (h15 : (n = m ∨ ¬ OkJ ke kn km pk → yI σ X)) (h16 : ∀ f σ', n ≠ m → OkJ ke kn km pk → lQ [t, mo] σ σ' → BookAt K σ' b t mo (ads ++ [f]) (ts ++ [bp (eP ke kn km) pk]) (ps ++ [[min n m, max n m]]) → Q (.int ts.length) σ') : spX_merge ns vs σ Q X
inductive sp_elders (ns : List Int) (vs : List V) (σ : ag) (Q : V → ag → Prop) : Prop
 | mk (K : _) (b : _) (t : _) (mo : _) (ads : _) (ts : _) (ps : _) (n : _) (h1 : vs = [.ref b, .int n]) (h2 : BookAt K σ b t mo ads ts ps) (h3 : 0 ≤ n) (h4 : n < ts.length) (h5 : ∀ xs, Eld ps n xs → gR (xs.map .int) σ Q) : sp_elders ns vs σ Q
inductive sp_nearest (ns : List Int) (vs : List V) (σ : ag) (Q : V → ag → Prop) : Prop
 | mk (K : _) (b : _) (t : _) (mo : _) (ads : _) (ts : _) (ps : _) (n : _) (m : _) (h1 : vs = [.ref b, .int n, .int m]) (h2 : BookAt K σ b t mo ads ts ps) (h3 : 0 ≤ n) (h4 : n < ts.length) (h5 : 0 ≤ m) (h6 : m < ts.length) (h7 : ∀ M σ', Grow σ σ' → Near ps n m M → Q (.int M) σ') : sp_nearest ns vs σ Q
inductive sp_road (ns : List Int) (vs : List V) (σ : ag) (Q : V → ag → Prop) : Prop
 | mk (K : _) (b : _) (t : _) (mo : _) (ads : _) (ts : _) (ps : _) (e : _) (n : _) (h1 : vs = [.ref b, .int e, .int n]) (h2 : BookAt K σ b t mo ads ts ps) (h3 : 0 ≤ e) (h4 : e < ts.length) (h5 : 0 ≤ n) (h6 : n < ts.length) (h7 : Anc ps n e) (h8 : ∀ r, Road ps e n r → r.length ≤ 40 → gR (r.map .int) σ Q) : sp_road ns vs σ Q
inductive sp__law_sign_by (ns : List Int) (vs : List V) (σ : ag) (Q : V → ag → Prop) : Prop
 | mk (k : _) (h1 : vs = [.int k]) (h2 : Q (.str (bn k)) σ) : sp__law_sign_by ns vs σ Q
inductive sp__law_path_by (ns : List Int) (vs : List V) (σ : ag) (Q : V → ag → Prop) : Prop
 | mk (c : _) (s : _) (h1 : vs = [.int c, .int s]) (h2 : ∀ x σ', Grow σ σ' → x ∈ KS s → Q (.str x) σ') : sp__law_path_by ns vs σ Q
inductive sp__law_deeds_by (ns : List Int) (vs : List V) (σ : ag) (Q : V → ag → Prop) : Prop
 | mk (c : _) (a : _) (s : _) (kvs : _) (ep : _) (h1 : vs = [.int c, .ref a, .int s]) (h2 : σ a = some (.dict kvs ep)) (h3 : ∀ dl, dl.length ≤ 3 → (∀ d ∈ dl, Deed (KS s) d) → gR dl σ Q) : sp__law_deeds_by ns vs σ Q
inductive sp__law_is_road (ns : List Int) (vs : List V) (σ : ag) (Q : V → ag → Prop) : Prop
 | mk (K : _) (b : _) (t : _) (mo : _) (ads : _) (ts : _) (ps : _) (r : _) (e : _) (n : _) (row : _) (h1 : vs = [.ref b, .ref r, .int e, .int n]) (h2 : BookAt K σ b t mo ads ts ps) (h3 : σ r = some (.list (row.map .int))) (h4 : Road ps e n row) (h5 : 0 ≤ e) (h6 : 0 ≤ n) (h7 : n < (ts.length : Int)) (h8 : row.length ≤ 40) (h9 : Q (.bool true) σ) : sp__law_is_road ns vs σ Q
inductive sp__law_both_changed (ns : List Int) (vs : List V) (σ : ag) (Q : V → ag → Prop) : Prop
 | mk (K : _) (a : _) (b : _) (c : _) (ka : _) (kb : _) (kc : _) (e1 : _) (e2 : _) (e3 : _) (l : _) (h1 : vs = [cT l, .ref a, .ref b, .ref c]) (h2 : D3 K a b c ka kb kc e1 e2 e3 σ) (h3 : l ∈ ct ka kb kc) (h4 : Q (.bool true) σ) : sp__law_both_changed ns vs σ Q
inductive sp__law_stands (ns : List Int) (vs : List V) (σ : ag) (Q : V → ag → Prop) : Prop
 | mk (K : _) (a : _) (b : _) (c : _) (ka : _) (kb : _) (kc : _) (e1 : _) (e2 : _) (e3 : _) (p : _) (pk : _) (ep : _) (d : _) (ed : _) (h1 : vs = [.ref d, .ref a, .ref b, .ref c, .ref p]) (h2 : D3 K a b c ka kb kc e1 e2 e3 σ) (h3 : σ p = some (.dict pk ep)) (h4 : Pk pk) (h5 : (∀ x ∈ keysOf pk, x ∈ K)) (h6 : σ d = some (.dict (bp (eP ka kb kc) pk) ed)) (h7 : OkJ ka kb kc pk) (h8 : ∀ σ', Grow σ σ' → Q (.bool true) σ') : sp__law_stands ns vs σ Q
inductive sp__law_joins (ns : List Int) (vs : List V) (σ : ag) (Q : V → ag → Prop) (d9 : String → ag → Prop) : Prop
 | mk (b : _) (t : _) (mo : _) (ads : _) (ts : _) (ps : _) (c : _) (s : _) (h1 : vs = [.ref b, .int c, .int s]) (h2 : BookAt (KS s) σ b t mo ads ts ps) (h3 : ts.length < 40) (h4 : ∀ ads' ts' ps' σ', lQ [t, mo] σ σ' → BookAt (KS s) σ' b t mo ads' ts' ps' → ts'.length ≤ ts.length + 1 → Q (.bool true) σ') : sp__law_joins ns vs σ Q d9
noncomputable def mU (_ns : List Int) : d6 := sZ
end Mine
end
noncomputable section
set_option maxRecDepth 100000
set_option maxHeartbeats 4000000
namespace Mine
open PySem PySem.W PyProof.Rows PySem.Calls
theorem cw : aX "trees" := by unfold aX; rw [typeLookup_type, builtinLookup_eq_fast]; kernel_rfl
theorem dH : aX "made_of" := by unfold aX; rw [typeLookup_type, builtinLookup_eq_fast]; kernel_rfl
theorem dW : aX "need" := by unfold aX; rw [typeLookup_type, builtinLookup_eq_fast]; kernel_rfl
theorem m0 : aX "many" := by unfold aX; rw [typeLookup_type, builtinLookup_eq_fast]; kernel_rfl
theorem ii : aX "tree" := by unfold aX; rw [typeLookup_type, builtinLookup_eq_fast]; kernel_rfl
theorem kz : aX "parents" := by unfold aX; rw [typeLookup_type, builtinLookup_eq_fast]; kernel_rfl
theorem jj : aX "put_down" := by unfold aX; rw [typeLookup_type, builtinLookup_eq_fast]; kernel_rfl
theorem vx : aX "grow" := by unfold aX; rw [typeLookup_type, builtinLookup_eq_fast]; kernel_rfl
theorem tC : aX "merge" := by unfold aX; rw [typeLookup_type, builtinLookup_eq_fast]; kernel_rfl
theorem l5 : aX "elders" := by unfold aX; rw [typeLookup_type, builtinLookup_eq_fast]; kernel_rfl
theorem dG : aX "nearest" := by unfold aX; rw [typeLookup_type, builtinLookup_eq_fast]; kernel_rfl
theorem vu : aX "road" := by unfold aX; rw [typeLookup_type, builtinLookup_eq_fast]; kernel_rfl
noncomputable def jC (ns : List Int) : ST :=
 (dP (iP (aJ (ax br (ae "text") (az (.str (Str.ofString "."))))) (iP (aJ (ax br (ae "text") (az (.str (Str.ofString ".."))))) (iP (j6 (qJ tz tz (az (.int 1)) (aM (ci ns) (ai (ae "text") ay)) (az (.int 12)))) tF))) (aq (bo (az (.bool false)))
 ar) ar)
noncomputable def fU (ns : List Int) : ST :=
 (cU (.name "sign") (gB ns (ae "text")) (aq (dP (aJ (ax ku (ae "sign") (az (.str (Str.ofString "abcdefghijklmnopqrstuvwxyzABCDEFGHIJKLMNOPQRSTUVWXYZ0123456789.-_"))))) (aq (bo (az (.bool false)))
 ar) ar)
 ar))
noncomputable def fT (ns : List Int) : ST :=
 (bo (az (.bool true)))
noncomputable def gu (ns : List Int) : ST := (aq (jC ns) (aq (fU ns) (aq (fT ns) ar)))
theorem sG {C : Cx} (G : Gl C Hd.vw) (hz : C.held = none) (g_LONGEST_PART : GInt C "LONGEST_PART" 12) (g_SIGNS : GStr C "SIGNS" (Str.ofString "abcdefghijklmnopqrstuvwxyzABCDEFGHIJKLMNOPQRSTUVWXYZ0123456789.-_"))  : HS C (aP Hd.vw 12) 0 (bv Hd.vw 12) (gu C.ns) :=
 (ah (aQ (bU (bT (aO bu (ac rfl rfl) bD rfl) (bT (aO bu (ac rfl rfl) bD rfl) (bT (fg (rn tH tH aA (cD G rfl (af (ac rfl rfl) ak rfl) rfl) (rm G.ok rfl g_LONGEST_PART rfl) rfl)) cI)))) (ah (aH bd)
 aj) aj)
 (ah (bc (aT rfl) (bC G.ok hz (ac rfl rfl)) (ah (aQ (aO rV (ac rfl rfl) (wr G.ok rfl g_SIGNS rfl) rfl) (ah (aH bd)
 aj) aj)
 aj) (fun _ _ => rfl))
 (ah (aH bd)
 aj)))
theorem sr {C : Cx} (G : Gl C Hd.vw) (hz : C.held = none) (g_LONGEST_PART : GInt C "LONGEST_PART" 12) (g_SIGNS : GStr C "SIGNS" (Str.ofString "abcdefghijklmnopqrstuvwxyzABCDEFGHIJKLMNOPQRSTUVWXYZ0123456789.-_"))  (hspec : ∀ vs σ Q, sp_is_part C.ns vs σ Q → vs.length = 1 ∧ gu C.ns (aG ["text"] vs aN) σ (fin Q)) : FnAt C 0 "is_part" (sp_is_part C.ns) :=
 FnAt.mk (xs := ["text"]) G 1 12 rfl rfl rfl rfl rfl (fun ws pm code doc h => by
  obtain ⟨w0, rfl⟩ := oq h
  rfl) rfl (sG G hz g_LONGEST_PART g_SIGNS ) hspec
noncomputable def jB (ns : List Int) : ST :=
 (bj "parts" (a6 ej ia (ae "text") (ai (az (.str (Str.ofString "/"))) ay)))
noncomputable def jA (ns : List Int) : ST :=
 (dP (aJ (ax pT (aM (ci ns) (ai (ae "parts") ay)) (az (.int 8)))) (aq (bo (az (.bool false)))
 ar) ar)
noncomputable def jz (ns : List Int) : ST :=
 (cU (.name "part") (gB ns (ae "parts")) (aq (dP (j6 (aJ (aM (sp_is_part ns) (ai (ae "part") ay)))) (aq (bo (az (.bool false)))
 ar) ar)
 ar))
noncomputable def jy (ns : List Int) : ST :=
 (bo (az (.bool true)))
noncomputable def gr (ns : List Int) : ST := (aq (jB ns) (aq (jA ns) (aq (jz ns) (aq (jy ns) ar))))
theorem sF {C : Cx} (G : Gl C Hd.vw) (hz : C.held = none) (g_MOST_PARTS : GInt C "MOST_PARTS" 8) (h_is_part : FnAt C 0 "is_part" (sp_is_part C.ns)) : HS C (aP Hd.vw 13) 1 (bv Hd.vw 13) (gr C.ns) :=
 (ah (aF (.inl rfl) (pr (ac rfl rfl) (af bD ak rfl) rfl (fun _ => rfl) rfl (by decide)) (fun _ _ => rfl))
 (ah (aQ (aO oh (cD G rfl (af (ac rfl rfl) ak rfl) rfl) (rm G.ok rfl g_MOST_PARTS rfl) rfl) (ah (aH bd)
 aj) aj)
 (ah (bc (aT rfl) (bC G.ok hz (ac rfl rfl)) (ah (aQ (fg (dO (aR G h_is_part (by decide) rfl rfl (af (ac rfl rfl) ak rfl) rfl) (fun _ _ => rfl))) (ah (aH bd)
 aj) aj)
 aj) (fun _ _ => rfl))
 (ah (aH bd)
 aj))))
theorem sq {C : Cx} (G : Gl C Hd.vw) (hz : C.held = none) (g_MOST_PARTS : GInt C "MOST_PARTS" 8) (h_is_part : FnAt C 0 "is_part" (sp_is_part C.ns)) (hspec : ∀ vs σ Q, sp_is_path C.ns vs σ Q → vs.length = 1 ∧ gr C.ns (aG ["text"] vs aN) σ (fin Q)) : FnAt C 1 "is_path" (sp_is_path C.ns) :=
 FnAt.mk (xs := ["text"]) G 2 13 rfl rfl rfl rfl rfl (fun ws pm code doc h => by
  obtain ⟨w0, rfl⟩ := oq h
  rfl) rfl (sF G hz g_MOST_PARTS h_is_part) hspec
noncomputable def mI (ns : List Int) : ST :=
 (bj "parts" (a6 ej ia (ae "path") (ai (az (.str (Str.ofString "/"))) ay)))
noncomputable def mH (ns : List Int) : ST :=
 (bo (jq ["parts"] (.name "size") (eY (ai (az (.int 1)) (ai (aM (ci ns) (ai (ae "parts") ay)) ay))) tT (a6 ej j8 (az (.str (Str.ofString "/"))) (ai (uC ns (ae "parts") qS (l3 (ae "size"))) ay))))
noncomputable def jX (ns : List Int) : ST := (aq (mI ns) (aq (mH ns) ar))
theorem v9 {C : Cx} (G : Gl C Hd.vw) (hz : C.held = none)   : HS C (aP Hd.vw 14) 0 (bv Hd.vw 14) (jX C.ns) :=
 (ah (aF (.inr rfl) (pr (ac rfl rfl) (af bD ak rfl) rfl (fun _ => rfl) rfl (by decide)) (fun _ _ => rfl))
 (ah (aH (j0 (CompOk.of rfl) (je G hz rfl (af aA (af (cD G rfl (af (nK rfl rfl) ak rfl) rfl) ak rfl) rfl) rfl) (aT rfl) nH (rk bD (af (qE G.ok (nK rfl rfl) rg (jZ (ac rfl rfl))) ak rfl) rfl (fun _ => rfl) rfl (by decide)) (fun _ _ => rfl)))
 aj))
theorem vT {C : Cx} (G : Gl C Hd.vw) (hz : C.held = none)   (hspec : ∀ vs σ Q, sp_above C.ns vs σ Q → vs.length = 1 ∧ jX C.ns (aG ["path"] vs aN) σ (fin Q)) : FnAt C 0 "above" (sp_above C.ns) :=
 FnAt.mk (xs := ["path"]) G 3 14 rfl rfl rfl rfl rfl (fun ws pm code doc h => by
  obtain ⟨w0, rfl⟩ := oq h
  rfl) rfl (v9 G hz  ) hspec
noncomputable def fV (ns : List Int) : ST :=
 (bo (a6 ej dF (ae "path") (ai (ax b0 (ae "upper") (az (.str (Str.ofString "/")))) ay)))
noncomputable def dz (ns : List Int) : ST := (aq (fV ns) ar)
theorem nk {C : Cx} (G : Gl C Hd.vw) (hz : C.held = none)   : HS C (aP Hd.vw 15) 0 (bv Hd.vw 15) (dz C.ns) :=
 (ah (aH (jf (ac rfl rfl) (af (aK bQ (ac rfl rfl) bD) ak rfl) rfl (fun _ => rfl) rfl (by decide)))
 aj)
theorem na {C : Cx} (G : Gl C Hd.vw) (hz : C.held = none)   (hspec : ∀ vs σ Q, sp_is_beneath C.ns vs σ Q → vs.length = 2 ∧ dz C.ns (aG ["path", "upper"] vs aN) σ (fin Q)) : FnAt C 0 "is_beneath" (sp_is_beneath C.ns) :=
 FnAt.mk (xs := ["path", "upper"]) G 4 15 rfl rfl rfl rfl rfl (fun ws pm code doc h => by
  obtain ⟨w0, w1, rfl⟩ := m6 h
  rfl) rfl (nk G hz  ) hspec
noncomputable def gM (ns : List Int) : ST :=
 (bj "found" gZ)
noncomputable def gL (ns : List Int) : ST :=
 (cU (.name "tree") (gB ns (eB (ai (ae "elder") (ai (ae "one") (ai (ae "other") ay))))) (aq (cU (.name "path") (gB ns (ae "tree")) (aq (bA gA (az (.bool true)) (ae "found") (ae "path"))
 ar))
 ar))
noncomputable def gK (ns : List Int) : ST :=
 (bo (qk (ae "found")))
noncomputable def dY (ns : List Int) : ST := (aq (gM ns) (aq (gL ns) (aq (gK ns) ar)))
theorem oR {C : Cx} (G : Gl C Hd.vw) (hz : C.held = none)   : HS C (aP Hd.vw 16) 0 (bv Hd.vw 16) (dY C.ns) :=
 (ah (aF (.inl rfl) ga (fun _ _ => rfl))
 (ah (bc (aT rfl) (bC G.ok hz (cR (af (ac rfl rfl) (af (ac rfl rfl) (af (ac rfl rfl) ak rfl) rfl) rfl))) (ah (bc (aT rfl) (bC G.ok hz (ac rfl rfl)) (ah (bV gf bd (ac rfl rfl) (ac rfl rfl) (fun _ _ => rfl))
 aj) (fun _ _ => rfl))
 aj) (fun _ _ => rfl))
 (ah (aH (lR G hz rfl (ac rfl rfl) (fun _ => rfl) rfl))
 aj)))
theorem oH {C : Cx} (G : Gl C Hd.vw) (hz : C.held = none)   (hspec : ∀ vs σ Q, sp_all_paths C.ns vs σ Q → vs.length = 3 ∧ dY C.ns (aG ["elder", "one", "other"] vs aN) σ (fin Q)) : FnAt C 0 "all_paths" (sp_all_paths C.ns) :=
 FnAt.mk (xs := ["elder", "one", "other"]) G 5 16 rfl rfl rfl rfl rfl (fun ws pm code doc h => by
  obtain ⟨w0, w1, w2, rfl⟩ := jJ h
  rfl) rfl (oR G hz  ) hspec
noncomputable def mG (ns : List Int) : ST :=
 (bj "told" (eB ay))
noncomputable def mF (ns : List Int) : ST :=
 (cU (.name "path") (gB ns (aM (sp_all_paths ns) (ai (ae "elder") (ai (ae "one") (ai (ae "other") ay))))) (aq (bj "was" (a6 bq cv (ae "elder") (ai (ae "path") ay)))
 (aq (bj "mine" (a6 bq cv (ae "one") (ai (ae "path") ay)))
 (aq (bj "theirs" (a6 bq cv (ae "other") (ai (ae "path") ay)))
 (aq (dP (aJ (ax br (ae "mine") (ae "theirs"))) (aq (dP (aJ (ax cc (ae "mine") (ae "was"))) (aq (bO (a6 ca bg (ae "told") (ai (gY (ai (ae "path") (ai (az (.str (Str.ofString "alike"))) ay))) ay)))
 ar) ar)
 ar) (aq (dP (aJ (ax br (ae "theirs") (ae "was"))) (aq (bO (a6 ca bg (ae "told") (ai (gY (ai (ae "path") (ai (az (.str (Str.ofString "one"))) ay))) ay)))
 ar) (aq (dP (aJ (ax br (ae "mine") (ae "was"))) (aq (bO (a6 ca bg (ae "told") (ai (gY (ai (ae "path") (ai (az (.str (Str.ofString "other"))) ay))) ay)))
 ar) (aq (bO (a6 ca bg (ae "told") (ai (gY (ai (ae "path") (ai (az (.str (Str.ofString "clash"))) ay))) ay)))
 ar))
 ar))
 ar))
 ar)))))
noncomputable def mE (ns : List Int) : ST :=
 (bo (ae "told"))
noncomputable def jV (ns : List Int) : ST := (aq (mG ns) (aq (mF ns) (aq (mE ns) ar)))
theorem v8 {C : Cx} (G : Gl C Hd.vw) (hz : C.held = none)  (h_all_paths : FnAt C 0 "all_paths" (sp_all_paths C.ns)) : HS C (aP Hd.vw 17) 1 (bv Hd.vw 17) (jV C.ns) :=
 (ah (aF (.inl rfl) (cR ak) (fun _ _ => rfl))
 (ah (bc (aT rfl) (bC G.ok hz (aR G h_all_paths (by decide) rfl rfl (af (ac rfl rfl) (af (ac rfl rfl) (af (ac rfl rfl) ak rfl) rfl) rfl) rfl)) (ah (aF (.inl rfl) (bZ G (ac rfl rfl) (af (ac rfl rfl) ak rfl) rfl (fun _ => rfl) rfl (by decide)) (fun _ _ => rfl))
 (ah (aF (.inl rfl) (bZ G (ac rfl rfl) (af (ac rfl rfl) ak rfl) rfl (fun _ => rfl) rfl (by decide)) (fun _ _ => rfl))
 (ah (aF (.inl rfl) (bZ G (ac rfl rfl) (af (ac rfl rfl) ak rfl) rfl (fun _ => rfl) rfl (by decide)) (fun _ _ => rfl))
 (ah (aQ (aO bu (ac rfl rfl) (ac rfl rfl) rfl) (ah (aQ (aO dI (ac rfl rfl) (ac rfl rfl) rfl) (ah (ba (bS (ac rfl rfl) (af (dn (af (ac rfl rfl) (af bD ak rfl) rfl)) ak rfl) rfl (fun _ => rfl) rfl (by decide)) (fun _ _ => rfl))
 aj) aj)
 aj) (ah (aQ (aO bu (ac rfl rfl) (ac rfl rfl) rfl) (ah (ba (bS (ac rfl rfl) (af (dn (af (ac rfl rfl) (af bD ak rfl) rfl)) ak rfl) rfl (fun _ => rfl) rfl (by decide)) (fun _ _ => rfl))
 aj) (ah (aQ (aO bu (ac rfl rfl) (ac rfl rfl) rfl) (ah (ba (bS (ac rfl rfl) (af (dn (af (ac rfl rfl) (af bD ak rfl) rfl)) ak rfl) rfl (fun _ => rfl) rfl (by decide)) (fun _ _ => rfl))
 aj) (ah (ba (bS (ac rfl rfl) (af (dn (af (ac rfl rfl) (af bD ak rfl) rfl)) ak rfl) rfl (fun _ => rfl) rfl (by decide)) (fun _ _ => rfl))
 aj))
 aj))
 aj))
 aj)))) (fun _ _ => rfl))
 (ah (aH (ac rfl rfl))
 aj)))
theorem vS {C : Cx} (G : Gl C Hd.vw) (hz : C.held = none)  (h_all_paths : FnAt C 0 "all_paths" (sp_all_paths C.ns)) (hspec : ∀ vs σ Q, sp_marks C.ns vs σ Q → vs.length = 3 ∧ jV C.ns (aG ["elder", "one", "other"] vs aN) σ (fin Q)) : FnAt C 1 "marks" (sp_marks C.ns) :=
 FnAt.mk (xs := ["elder", "one", "other"]) G 6 17 rfl rfl rfl rfl rfl (fun ws pm code doc h => by
  obtain ⟨w0, w1, w2, rfl⟩ := jJ h
  rfl) rfl (v8 G hz  h_all_paths) hspec
noncomputable def iG (ns : List Int) : ST :=
 (bo (jq [] (.tup ["path", "word"]) (gB ns (aM (sp_marks ns) (ai (ae "elder") (ai (ae "one") (ai (ae "other") ay))))) (aJ (ax br (ae "word") (az (.str (Str.ofString "clash"))))) (ae "path")))
noncomputable def fe (ns : List Int) : ST := (aq (iG ns) ar)
theorem qv {C : Cx} (G : Gl C Hd.vw) (hz : C.held = none)  (h_marks : FnAt C 1 "marks" (sp_marks C.ns)) : HS C (aP Hd.vw 18) 2 (bv Hd.vw 18) (fe C.ns) :=
 (ah (aH (j0 (CompOk.of rfl) (bC G.ok hz (aR G h_marks (by decide) rfl rfl (af (ac rfl rfl) (af (ac rfl rfl) (af (ac rfl rfl) ak rfl) rfl) rfl) rfl)) (yi G.ok (l := [("path", _), ("word", _)]) (by decide)) (rf (aO bu (ac rfl rfl) bD rfl)) (ac rfl rfl) (fun _ _ => rfl)))
 aj)
theorem qh {C : Cx} (G : Gl C Hd.vw) (hz : C.held = none)  (h_marks : FnAt C 1 "marks" (sp_marks C.ns)) (hspec : ∀ vs σ Q, sp_clashing C.ns vs σ Q → vs.length = 3 ∧ fe C.ns (aG ["elder", "one", "other"] vs aN) σ (fin Q)) : FnAt C 2 "clashing" (sp_clashing C.ns) :=
 FnAt.mk (xs := ["elder", "one", "other"]) G 7 18 rfl rfl rfl rfl rfl (fun ws pm code doc h => by
  obtain ⟨w0, w1, w2, rfl⟩ := jJ h
  rfl) rfl (qv G hz  h_marks) hspec
noncomputable def iA (ns : List Int) : ST :=
 (bj "away" (aM (sp_clashing ns) (ai (ae "elder") (ai (ae "one") (ai (ae "other") ay)))))
noncomputable def iz (ns : List Int) : ST :=
 (bj "found" gZ)
noncomputable def iy (ns : List Int) : ST :=
 (cU (.name "path") (gB ns (aM (sp_all_paths ns) (ai (ae "elder") (ai (ae "one") (ai (ae "other") ay))))) (aq (bj "text" (a6 bq cv (ae "one") (ai (ae "path") ay)))
 (aq (dP (aJ (ax br (a6 bq cv (ae "one") (ai (ae "path") ay)) (a6 bq cv (ae "elder") (ai (ae "path") ay)))) (aq (bj "text" (a6 bq cv (ae "other") (ai (ae "path") ay)))
 ar) ar)
 (aq (dP (lI (aJ (ax ic (ae "path") (ae "away"))) (lI (aJ (ax c9 (ae "text") (az .none))) tT)) (aq (bA gA (ae "text") (ae "found") (ae "path"))
 ar) ar)
 ar))))
noncomputable def ix (ns : List Int) : ST :=
 (bo (ae "found"))
noncomputable def e8 (ns : List Int) : ST := (aq (iA ns) (aq (iz ns) (aq (iy ns) (aq (ix ns) ar))))
theorem qt {C : Cx} (G : Gl C Hd.vw) (hz : C.held = none)  (h_clashing : FnAt C 2 "clashing" (sp_clashing C.ns)) (h_all_paths : FnAt C 0 "all_paths" (sp_all_paths C.ns)) : HS C (aP Hd.vw 19) 3 (bv Hd.vw 19) (e8 C.ns) :=
 (ah (aF (.inl rfl) (aR G h_clashing (by decide) rfl rfl (af (ac rfl rfl) (af (ac rfl rfl) (af (ac rfl rfl) ak rfl) rfl) rfl) rfl) (fun _ _ => rfl))
 (ah (aF (.inl rfl) ga (fun _ _ => rfl))
 (ah (bc (aT rfl) (bC G.ok hz (aR G h_all_paths (by decide) rfl rfl (af (ac rfl rfl) (af (ac rfl rfl) (af (ac rfl rfl) ak rfl) rfl) rfl) rfl)) (ah (aF (.inl rfl) (bZ G (ac rfl rfl) (af (ac rfl rfl) ak rfl) rfl (fun _ => rfl) rfl (by decide)) (fun _ _ => rfl))
 (ah (aQ (aO bu (bZ G (ac rfl rfl) (af (ac rfl rfl) ak rfl) rfl (fun _ => rfl) rfl (by decide)) (bZ G (ac rfl rfl) (af (ac rfl rfl) ak rfl) rfl (fun _ => rfl) rfl (by decide)) rfl) (ah (aF (.inl rfl) (bZ G (ac rfl rfl) (af (ac rfl rfl) ak rfl) rfl (fun _ => rfl) rfl (by decide)) (fun _ _ => rfl))
 aj) aj)
 (ah (aQ (bU (gz (aO l6 (ac rfl rfl) (ac rfl rfl) rfl) (gz (aO kB (ac rfl rfl) iM rfl) hY))) (ah (bV gf (ac rfl rfl) (ac rfl rfl) (ac rfl rfl) (fun _ _ => rfl))
 aj) aj)
 aj))) (fun _ _ => rfl))
 (ah (aH (ac rfl rfl))
 aj))))
theorem qf {C : Cx} (G : Gl C Hd.vw) (hz : C.held = none)  (h_clashing : FnAt C 2 "clashing" (sp_clashing C.ns)) (h_all_paths : FnAt C 0 "all_paths" (sp_all_paths C.ns)) (hspec : ∀ vs σ Q, sp_standing C.ns vs σ Q → vs.length = 3 ∧ e8 C.ns (aG ["elder", "one", "other"] vs aN) σ (fin Q)) : FnAt C 3 "standing" (sp_standing C.ns) :=
 FnAt.mk (xs := ["elder", "one", "other"]) G 8 19 rfl rfl rfl rfl rfl (fun ws pm code doc h => by
  obtain ⟨w0, w1, w2, rfl⟩ := jJ h
  rfl) rfl (qt G hz  h_clashing h_all_paths) hspec
noncomputable def jG (ns : List Int) : ST :=
 (bj "told" (jq [] (.name "path") (gB ns (aM (sp_clashing ns) (ai (ae "elder") (ai (ae "one") (ai (ae "other") ay))))) tT (gY (ai (ae "path") ay))))
noncomputable def jF (ns : List Int) : ST :=
 (bj "files" (aM (sp_standing ns) (ai (ae "elder") (ai (ae "one") (ai (ae "other") ay)))))
noncomputable def jE (ns : List Int) : ST :=
 (cU (.name "path") (gB ns (ae "files")) (aq (cU (.name "folder") (gB ns (aM (sp_above ns) (ai (ae "path") ay))) (aq (dP (aJ (ax cG (ae "folder") (ae "files"))) (aq (bO (a6 ca bg (ae "told") (ai (gY (ai (ae "folder") (ai (ae "path") ay))) ay)))
 ar) ar)
 ar))
 ar))
noncomputable def jD (ns : List Int) : ST :=
 (bo (aM mV (ai (ae "told") ay)))
noncomputable def gv (ns : List Int) : ST := (aq (jG ns) (aq (jF ns) (aq (jE ns) (aq (jD ns) ar))))
theorem sH {C : Cx} (G : Gl C Hd.vw) (hz : C.held = none)  (h_clashing : FnAt C 2 "clashing" (sp_clashing C.ns)) (h_standing : FnAt C 3 "standing" (sp_standing C.ns)) (h_above : FnAt C 0 "above" (sp_above C.ns)) : HS C (aP Hd.vw 20) 4 (bv Hd.vw 20) (gv C.ns) :=
 (ah (pj (CompOk.of rfl) (bC G.ok hz (aR G h_clashing (by decide) rfl rfl (af (ac rfl rfl) (af (ac rfl rfl) (af (ac rfl rfl) ak rfl) rfl) rfl) rfl)) (aT rfl) nH (dn (af (ac rfl rfl) ak rfl)) (fun _ _ => rfl) rfl (nS rfl rfl rfl))
 (ah (aF (.inl rfl) (aR G h_standing (by decide) rfl rfl (af (ac rfl rfl) (af (ac rfl rfl) (af (ac rfl rfl) ak rfl) rfl) rfl) rfl) (fun _ _ => rfl))
 (ah (bc (aT rfl) (bC G.ok hz (ac rfl rfl)) (ah (bc (aT rfl) (bC G.ok hz (aR G h_above (by decide) rfl rfl (af (ac rfl rfl) ak rfl) rfl)) (ah (aQ (aO (dJ G.ok) (ac rfl rfl) (ac rfl rfl) rfl) (ah (ba (bS (ac rfl rfl) (af (dn (af (ac rfl rfl) (af (ac rfl rfl) ak rfl) rfl)) ak rfl) rfl (fun _ => rfl) rfl (by decide)) (fun _ _ => rfl))
 aj) aj)
 aj) (fun _ _ => rfl))
 aj) (fun _ _ => rfl))
 (ah (aH (qA G hz rfl (af (ac rfl rfl) ak rfl) rfl))
 aj))))
theorem sv {C : Cx} (G : Gl C Hd.vw) (hz : C.held = none)  (h_clashing : FnAt C 2 "clashing" (sp_clashing C.ns)) (h_standing : FnAt C 3 "standing" (sp_standing C.ns)) (h_above : FnAt C 0 "above" (sp_above C.ns)) (hspec : ∀ vs σ Q, sp_clashes C.ns vs σ Q → vs.length = 3 ∧ gv C.ns (aG ["elder", "one", "other"] vs aN) σ (fin Q)) : FnAt C 4 "clashes" (sp_clashes C.ns) :=
 FnAt.mk (xs := ["elder", "one", "other"]) G 9 20 rfl rfl rfl rfl rfl (fun ws pm code doc h => by
  obtain ⟨w0, w1, w2, rfl⟩ := jJ h
  rfl) rfl (sH G hz  h_clashing h_standing h_above) hspec
noncomputable def ls (ns : List Int) : bN :=
 (xP (bj "known" gZ))
noncomputable def lr (ns : List Int) : bN :=
 (xP (cU (.name "clash") (gB ns (aM (sp_clashes ns) (ai (ae "elder") (ai (ae "one") (ai (ae "other") ay))))) (aq (cU (.name "path") (gB ns (ae "clash")) (aq (bA gA (az (.bool true)) (ae "known") (ae "path"))
 ar))
 ar)))
noncomputable def lq (ns : List Int) : bN :=
 (mO (.name "path") (gB ns (ae "picks")) (aV (sN (aJ (ax fK (ae "path") (ae "known"))) (aV (d7 "NoClash")
 (xP ar)) (xP ar))
 (xP ar)))
noncomputable def lp (ns : List Int) : bN :=
 (mO (.name "path") (gB ns (aM (sp_clashing ns) (ai (ae "elder") (ai (ae "one") (ai (ae "other") ay))))) (aV (sN (aJ (ax fK (ae "path") (ae "picks"))) (aV (d7 "Clashed")
 (xP ar)) (xP ar))
 (xP ar)))
noncomputable def ll (ns : List Int) : bN :=
 (xP (bj "files" (aM (sp_standing ns) (ai (ae "elder") (ai (ae "one") (ai (ae "other") ay))))))
noncomputable def lk (ns : List Int) : bN :=
 (xP (cU (.name "path") (gB ns (ae "picks")) (aq (dP (aJ (ax c9 (ax dU (ae "picks") (ae "path")) (az .none))) (aq (bA gA (ax dU (ae "picks") (ae "path")) (ae "files") (ae "path"))
 ar) (aq (dP (aJ (ax cG (ae "path") (ae "files"))) (aq (bO (a6 bq lV (ae "files") (ai (ae "path") ay)))
 ar) ar)
 ar))
 ar)))
noncomputable def lj (ns : List Int) : bN :=
 (mO (.name "path") (gB ns (ae "files")) (aV (mO (.name "folder") (gB ns (aM (sp_above ns) (ai (ae "path") ay))) (aV (sN (aJ (ax cG (ae "folder") (ae "files"))) (aV (d7 "Clashed")
 (xP ar)) (xP ar))
 (xP ar)))
 (xP ar)))
noncomputable def li (ns : List Int) : ST :=
 (bo (ae "files"))
noncomputable def iE (ns : List Int) : bN := (aV (ls ns) (aV (lr ns) (aV (lq ns) (aV (lp ns) (aV (ll ns) (aV (lk ns) (aV (lj ns) (xP (aq (li ns) ar)))))))))
theorem uK {C : Cx} (G : Gl C Hd.vw) (hz : C.held = none)  {ad : String → Addr} (Tb : XTab C nL p5 ad) (h_clashes : FnAt C 4 "clashes" (sp_clashes C.ns)) (h_clashing : FnAt C 2 "clashing" (sp_clashing C.ns)) (h_standing : FnAt C 3 "standing" (sp_standing C.ns)) (h_above : FnAt C 0 "above" (sp_above C.ns)) : HSX C (aP Hd.vw 21) 5 (bv Hd.vw 21) (iE C.ns) :=
 (HSX.cons (HSX1.plain (aF (.inl rfl) ga (fun _ _ => rfl)))
 (HSX.cons (HSX1.plain (bc (aT rfl) (bC G.ok hz (aR G h_clashes (by decide) rfl rfl (af (ac rfl rfl) (af (ac rfl rfl) (af (ac rfl rfl) ak rfl) rfl) rfl) rfl)) (ah (bc (aT rfl) (bC G.ok hz (ac rfl rfl)) (ah (bV gf bd (ac rfl rfl) (ac rfl rfl) (fun _ _ => rfl))
 aj) (fun _ _ => rfl))
 aj) (fun _ _ => rfl)))
 (HSX.cons (HSX1.for (aT rfl) (bC G.ok hz (ac rfl rfl)) (HSX.cons (HSX1.ite (aO (iX G.ok) (ac rfl rfl) (ac rfl rfl) rfl) (HSX.cons (HSX1.raiseAt G hz Tb (by decide) rfl rfl)
 (HSX.plain aj)) (HSX.plain aj))
 (HSX.plain aj)) (fun _ _ => rfl))
 (HSX.cons (HSX1.for (aT rfl) (bC G.ok hz (aR G h_clashing (by decide) rfl rfl (af (ac rfl rfl) (af (ac rfl rfl) (af (ac rfl rfl) ak rfl) rfl) rfl) rfl)) (HSX.cons (HSX1.ite (aO (iX G.ok) (ac rfl rfl) (ac rfl rfl) rfl) (HSX.cons (HSX1.raiseAt G hz Tb (by decide) rfl rfl)
 (HSX.plain aj)) (HSX.plain aj))
 (HSX.plain aj)) (fun _ _ => rfl))
 (HSX.cons (HSX1.plain (aF (.inl rfl) (aR G h_standing (by decide) rfl rfl (af (ac rfl rfl) (af (ac rfl rfl) (af (ac rfl rfl) ak rfl) rfl) rfl) rfl) (fun _ _ => rfl)))
 (HSX.cons (HSX1.plain (bc (aT rfl) (bC G.ok hz (ac rfl rfl)) (ah (aQ (aO kB (lD (ac rfl rfl) (ac rfl rfl) rfl) iM rfl) (ah (bV gf (lD (ac rfl rfl) (ac rfl rfl) rfl) (ac rfl rfl) (ac rfl rfl) (fun _ _ => rfl))
 aj) (ah (aQ (aO (dJ G.ok) (ac rfl rfl) (ac rfl rfl) rfl) (ah (ba (rh (ac rfl rfl) (af (ac rfl rfl) ak rfl) rfl (fun _ => rfl) rfl (by decide)) (fun _ _ => rfl))
 aj) aj)
 aj))
 aj) (fun _ _ => rfl)))
 (HSX.cons (HSX1.for (aT rfl) (bC G.ok hz (ac rfl rfl)) (HSX.cons (HSX1.for (aT rfl) (bC G.ok hz (aR G h_above (by decide) rfl rfl (af (ac rfl rfl) ak rfl) rfl)) (HSX.cons (HSX1.ite (aO (dJ G.ok) (ac rfl rfl) (ac rfl rfl) rfl) (HSX.cons (HSX1.raiseAt G hz Tb (by decide) rfl rfl)
 (HSX.plain aj)) (HSX.plain aj))
 (HSX.plain aj)) (fun _ _ => rfl))
 (HSX.plain aj)) (fun _ _ => rfl))
 (HSX.plain (ah (aH (ac rfl rfl))
 aj)))))))))
theorem ut {C : Cx} (G : Gl C Hd.vw) (hz : C.held = none)  {ad : String → Addr} (Tb : XTab C nL p5 ad) (h_clashes : FnAt C 4 "clashes" (sp_clashes C.ns)) (h_clashing : FnAt C 2 "clashing" (sp_clashing C.ns)) (h_standing : FnAt C 3 "standing" (sp_standing C.ns)) (h_above : FnAt C 0 "above" (sp_above C.ns)) (hspec : ∀ vs σ Q X, sp_joined C.ns vs σ Q X → vs.length = 4 ∧ iE C.ns (aG ["elder", "one", "other", "picks"] vs aN) σ (fin Q) (fun c _ σ' => X c σ')) : FnAtX C 5 "joined" (sp_joined C.ns) :=
 FnAtX.mk (xs := ["elder", "one", "other", "picks"]) G 10 21 rfl rfl rfl rfl rfl (fun ws pm code doc h => by
  obtain ⟨w0, w1, w2, w3, rfl⟩ := tZ h
  rfl) rfl (uK G hz  Tb h_clashes h_clashing h_standing h_above) hspec
noncomputable def pi (ns : List Int) : bN :=
 (xP (bj "path" (ax (aL ns) (ae "deed") (az (.int 1)))))
noncomputable def ph (ns : List Int) : bN :=
 (sN (j6 (aJ (aM (sp_is_path ns) (ai (ae "path") ay)))) (aV (d7 "NoPath")
 (xP ar)) (xP ar))
noncomputable def pg (ns : List Int) : bN :=
 (xP (bj "fresh" (aM gc (ai (ae "tree") ay))))
noncomputable def pf (ns : List Int) : bN :=
 (sN (aJ (ax br (ax (aL ns) (ae "deed") (az (.int 0))) (az (.str (Str.ofString "cut"))))) (aV (sN (aJ (ax fK (ae "path") (ae "fresh"))) (aV (d7 "NoFile")
 (xP ar)) (xP ar))
 (xP (aq (bO (a6 bq lV (ae "fresh") (ai (ae "path") ay)))
 (aq (bo (ae "fresh"))
 ar)))) (xP ar))
noncomputable def pe (ns : List Int) : bN :=
 (mO (.name "other") (gB ns (ae "tree")) (aV (sN (iP (aJ (aM (sp_is_beneath ns) (ai (ae "path") (ai (ae "other") ay)))) (iP (aJ (aM (sp_is_beneath ns) (ai (ae "other") (ai (ae "path") ay)))) tF)) (aV (d7 "InTheWay")
 (xP ar)) (xP ar))
 (xP ar)))
noncomputable def pd (ns : List Int) : ST :=
 (bA gA (ax (aL ns) (ae "deed") (az (.int 2))) (ae "fresh") (ae "path"))
noncomputable def o9 (ns : List Int) : ST :=
 (bo (ae "fresh"))
noncomputable def nF (ns : List Int) : bN := (aV (pi ns) (aV (ph ns) (aV (pg ns) (aV (pf ns) (aV (pe ns) (xP (aq (pd ns) (aq (o9 ns) ar))))))))
theorem ye {C : Cx} (G : Gl C Hd.vw) (hz : C.held = none)  {ad : String → Addr} (Tb : XTab C nL p5 ad) (h_is_path : FnAt C 1 "is_path" (sp_is_path C.ns)) (h_is_beneath : FnAt C 0 "is_beneath" (sp_is_beneath C.ns)) : HSX C (aP Hd.vw 22) 2 (bv Hd.vw 22) (nF C.ns) :=
 (HSX.cons (HSX1.plain (aF (.inl rfl) (aZ G (ac rfl rfl) aA rfl) (fun _ _ => rfl)))
 (HSX.cons (HSX1.ite (fg (dO (aR G h_is_path (by decide) rfl rfl (af (ac rfl rfl) ak rfl) rfl) (fun _ _ => rfl))) (HSX.cons (HSX1.raiseAt G hz Tb (by decide) rfl rfl)
 (HSX.plain aj)) (HSX.plain aj))
 (HSX.cons (HSX1.plain (aF (.inl rfl) (lE G rfl (af (ac rfl rfl) ak rfl) rfl) (fun _ _ => rfl)))
 (HSX.cons (HSX1.ite (aO bu (aZ G (ac rfl rfl) aA rfl) bD rfl) (HSX.cons (HSX1.ite (aO (iX G.ok) (ac rfl rfl) (ac rfl rfl) rfl) (HSX.cons (HSX1.raiseAt G hz Tb (by decide) rfl rfl)
 (HSX.plain aj)) (HSX.plain aj))
 (HSX.plain (ah (ba (rh (ac rfl rfl) (af (ac rfl rfl) ak rfl) rfl (fun _ => rfl) rfl (by decide)) (fun _ _ => rfl))
 (ah (aH (ac rfl rfl))
 aj)))) (HSX.plain aj))
 (HSX.cons (HSX1.for (aT rfl) (bC G.ok hz (ac rfl rfl)) (HSX.cons (HSX1.ite (bU (bT (dO (aR G h_is_beneath (by decide) rfl rfl (af (ac rfl rfl) (af (ac rfl rfl) ak rfl) rfl) rfl) (fun _ _ => rfl)) (bT (dO (aR G h_is_beneath (by decide) rfl rfl (af (ac rfl rfl) (af (ac rfl rfl) ak rfl) rfl) rfl) (fun _ _ => rfl)) cI))) (HSX.cons (HSX1.raiseAt G hz Tb (by decide) rfl rfl)
 (HSX.plain aj)) (HSX.plain aj))
 (HSX.plain aj)) (fun _ _ => rfl))
 (HSX.plain (ah (bV gf (aZ G (ac rfl rfl) aA rfl) (ac rfl rfl) (ac rfl rfl) (fun _ _ => rfl))
 (ah (aH (ac rfl rfl))
 aj))))))))
theorem xK {C : Cx} (G : Gl C Hd.vw) (hz : C.held = none)  {ad : String → Addr} (Tb : XTab C nL p5 ad) (h_is_path : FnAt C 1 "is_path" (sp_is_path C.ns)) (h_is_beneath : FnAt C 0 "is_beneath" (sp_is_beneath C.ns)) (hspec : ∀ vs σ Q X, sp_done C.ns vs σ Q X → vs.length = 2 ∧ nF C.ns (aG ["tree", "deed"] vs aN) σ (fin Q) (fun c _ σ' => X c σ')) : FnAtX C 2 "done" (sp_done C.ns) :=
 FnAtX.mk (xs := ["tree", "deed"]) G 11 22 rfl rfl rfl rfl rfl (fun ws pm code doc h => by
  obtain ⟨w0, w1, rfl⟩ := m6 h
  rfl) rfl (ye G hz  Tb h_is_path h_is_beneath) hspec
noncomputable def jI (ns : List Int) : bN :=
 (xP (bj "fresh" (aM gc (ai (ae "tree") ay))))
noncomputable def jH (ns : List Int) : bN :=
 (mO (.name "deed") (gB ns (ae "deeds")) (aV (ro "fresh" (hZ (sp_done ns) (ai (ae "fresh") (ai (ae "deed") ay))))
 (xP ar)))
noncomputable def fW (ns : List Int) : ST :=
 (bo (ae "fresh"))
noncomputable def gw (ns : List Int) : bN := (aV (jI ns) (aV (jH ns) (xP (aq (fW ns) ar))))
theorem sI {C : Cx} (G : Gl C Hd.vw) (hz : C.held = none)  (h_done : FnAtX C 2 "done" (sp_done C.ns)) : HSX C (aP Hd.vw 23) 3 (bv Hd.vw 23) (gw C.ns) :=
 (HSX.cons (HSX1.plain (aF (.inl rfl) (lE G rfl (af (ac rfl rfl) ak rfl) rfl) (fun _ _ => rfl)))
 (HSX.cons (HSX1.for (aT rfl) (bC G.ok hz (ac rfl rfl)) (HSX.cons (HSX1.set (.inl rfl) (HEX.callAt G h_done (by decide) rfl rfl (af (ac rfl rfl) (af (ac rfl rfl) ak rfl) rfl) rfl) (fun _ _ => rfl))
 (HSX.plain aj)) (fun _ _ => rfl))
 (HSX.plain (ah (aH (ac rfl rfl))
 aj))))
theorem sw {C : Cx} (G : Gl C Hd.vw) (hz : C.held = none)  (h_done : FnAtX C 2 "done" (sp_done C.ns)) (hspec : ∀ vs σ Q X, sp_changed C.ns vs σ Q X → vs.length = 2 ∧ gw C.ns (aG ["tree", "deeds"] vs aN) σ (fin Q) (fun c _ σ' => X c σ')) : FnAtX C 3 "changed" (sp_changed C.ns) :=
 FnAtX.mk (xs := ["tree", "deeds"]) G 12 23 rfl rfl rfl rfl rfl (fun ws pm code doc h => by
  obtain ⟨w0, w1, rfl⟩ := m6 h
  rfl) rfl (sI G hz  h_done) hspec
noncomputable def iI (ns : List Int) : ST :=
 (qP "trees" (eB (ai gZ ay)) (ae "self"))
noncomputable def iH (ns : List Int) : ST :=
 (qP "made_of" (eB (ai (gY ay) ay)) (ae "self"))
noncomputable def ff (ns : List Int) : ST := (aq (iI ns) (aq (iH ns) ar))
theorem qw {C : Cx} (G : Gl C Hd.vw) (hz : C.held = none)  {bk N : Addr} {mN : Str → Option Value} (B : Bk C bk N mN)  : HS C (Hd.fS (Hd.cB Hd.TB 29) 0) 0 (Hd.fB (Hd.cB Hd.TB 29) 0) (ff C.ns) :=
 (ah (po B cw (B.look "trees" (by decide)) (cR (af ga ak rfl)) (ac rfl rfl) (fun _ _ => rfl))
 (ah (po B dH (B.look "made_of" (by decide)) (cR (af (dn ak) ak rfl)) (ac rfl rfl) (fun _ _ => rfl))
 aj))
theorem qi {C : Cx} (G : Gl C Hd.vw) (hz : C.held = none)  {bk N : Addr} {mN : Str → Option Value} (B : Bk C bk N mN) {P : Params} (KX : (Hd.kk P).In C.hB) (hN : N = Hd.bkN)  (hspec : ∀ vs σ Q, sp___init__ C.ns vs σ Q → vs.length = 1 ∧ ff C.ns (aG ["self"] vs aN) σ (fin Q)) : MtAt C mN 0 "__init__" (sp___init__ C.ns) :=
 MtAt.mk (xs := ["self"]) G.ok B KX (Hd.m___init__ P) (by subst hN; exact Hd.mn___init__ P) rfl rfl rfl rfl rfl (fun ws h => by
  obtain ⟨w0, rfl⟩ := oq h
  rfl) rfl (qw G hz  B ) hspec
noncomputable def o7 (ns : List Int) : ST :=
 (dP (iP (aJ (aM df (ai (ae "number") (ai (az (.ty "bool")) ay)))) (iP (j6 (aJ (aM df (ai (ae "number") (ai (az (.ty "int")) ay))))) (iP (j6 (qJ tz tw (az (.int 0)) (ae "number") (aM (ci ns) (ai (dM "trees" (ae "self")) ay)))) tF))) (aq pO
 ar) ar)
noncomputable def nA (ns : List Int) : ST := (aq (o7 ns) ar)
theorem yc {C : Cx} (G : Gl C Hd.vw) (hz : C.held = none)  {bk N : Addr} {mN : Str → Option Value} (B : Bk C bk N mN)  : HS C (Hd.fS (Hd.cB Hd.TB 29) 1) 0 (Hd.fB (Hd.cB Hd.TB 29) 1) (nA C.ns) :=
 (ah (aQ (bU (bT (dO (qC G rfl (af (ac rfl rfl) (af (uU G rfl) ak rfl) rfl) rfl) (fun _ _ => rfl)) (bT (fg (dO (qC G rfl (af (ac rfl rfl) (af (wt G rfl) ak rfl) rfl) rfl) (fun _ _ => rfl))) (bT (fg (rn tH wG aA (ac rfl rfl) (cD G rfl (af (cr B cw (B.look "trees" (by decide)) (ac rfl rfl) (fun _ => rfl)) ak rfl) rfl) rfl)) cI)))) (ah sK
 aj) aj)
 aj)
theorem xI {C : Cx} (G : Gl C Hd.vw) (hz : C.held = none)  {bk N : Addr} {mN : Str → Option Value} (B : Bk C bk N mN) {P : Params} (KX : (Hd.kk P).In C.hB) (hN : N = Hd.bkN)  (hspec : ∀ vs σ Q, sp_need C.ns vs σ Q → vs.length = 2 ∧ nA C.ns (aG ["self", "number"] vs aN) σ (fin Q)) : MtAt C mN 0 "need" (sp_need C.ns) :=
 MtAt.mk (xs := ["self", "number"]) G.ok B KX (Hd.m_need P) (by subst hN; exact Hd.mn_need P) rfl rfl rfl rfl rfl (fun ws h => by
  obtain ⟨w0, w1, rfl⟩ := m6 h
  rfl) rfl (yc G hz  B ) hspec
noncomputable def o8 (ns : List Int) : ST :=
 (bo (aM (ci ns) (ai (dM "trees" (ae "self")) ay)))
noncomputable def nB (ns : List Int) : ST := (aq (o8 ns) ar)
theorem yd {C : Cx} (G : Gl C Hd.vw) (hz : C.held = none)  {bk N : Addr} {mN : Str → Option Value} (B : Bk C bk N mN)  : HS C (Hd.fS (Hd.cB Hd.TB 29) 2) 0 (Hd.fB (Hd.cB Hd.TB 29) 2) (nB C.ns) :=
 (ah (aH (cD G rfl (af (cr B cw (B.look "trees" (by decide)) (ac rfl rfl) (fun _ => rfl)) ak rfl) rfl))
 aj)
theorem xJ {C : Cx} (G : Gl C Hd.vw) (hz : C.held = none)  {bk N : Addr} {mN : Str → Option Value} (B : Bk C bk N mN) {P : Params} (KX : (Hd.kk P).In C.hB) (hN : N = Hd.bkN)  (hspec : ∀ vs σ Q, sp_many C.ns vs σ Q → vs.length = 1 ∧ nB C.ns (aG ["self"] vs aN) σ (fin Q)) : MtAt C mN 0 "many" (sp_many C.ns) :=
 MtAt.mk (xs := ["self"]) G.ok B KX (Hd.m_many P) (by subst hN; exact Hd.mn_many P) rfl rfl rfl rfl rfl (fun ws h => by
  obtain ⟨w0, rfl⟩ := oq h
  rfl) rfl (yd G hz  B ) hspec
noncomputable def oX (ns : List Int) : ST :=
 (bO (be "need" (sp_need ns) (ae "self") (ai (ae "number") ay)))
noncomputable def oW (ns : List Int) : ST :=
 (bo (aM gc (ai (ax (aL ns) (dM "trees" (ae "self")) (ae "number")) ay)))
noncomputable def nw (ns : List Int) : ST := (aq (oX ns) (aq (oW ns) ar))
theorem x9 {C : Cx} (G : Gl C Hd.vw) (hz : C.held = none)  {bk N : Addr} {mN : Str → Option Value} (B : Bk C bk N mN) (h_need : MtAt C mN 0 "need" (sp_need C.ns)) : HS C (Hd.fS (Hd.cB Hd.TB 29) 3) 1 (Hd.fB (Hd.cB Hd.TB 29) 3) (nw C.ns) :=
 (ah (ba (aW G.ok B h_need (by decide) dW (ac rfl rfl) (af (ac rfl rfl) ak rfl) rfl (fun _ => rfl) rfl (by decide)) (fun _ _ => rfl))
 (ah (aH (lE G rfl (af (aZ G (cr B cw (B.look "trees" (by decide)) (ac rfl rfl) (fun _ => rfl)) (ac rfl rfl) rfl) ak rfl) rfl))
 aj))
theorem xG {C : Cx} (G : Gl C Hd.vw) (hz : C.held = none)  {bk N : Addr} {mN : Str → Option Value} (B : Bk C bk N mN) {P : Params} (KX : (Hd.kk P).In C.hB) (hN : N = Hd.bkN) (h_need : MtAt C mN 0 "need" (sp_need C.ns)) (hspec : ∀ vs σ Q, sp_tree C.ns vs σ Q → vs.length = 2 ∧ nw C.ns (aG ["self", "number"] vs aN) σ (fin Q)) : MtAt C mN 1 "tree" (sp_tree C.ns) :=
 MtAt.mk (xs := ["self", "number"]) G.ok B KX (Hd.m_tree P) (by subst hN; exact Hd.mn_tree P) rfl rfl rfl rfl rfl (fun ws h => by
  obtain ⟨w0, w1, rfl⟩ := m6 h
  rfl) rfl (x9 G hz  B h_need) hspec
noncomputable def jv (ns : List Int) : ST :=
 (bO (be "need" (sp_need ns) (ae "self") (ai (ae "number") ay)))
noncomputable def ju (ns : List Int) : ST :=
 (bo (ax (aL ns) (dM "made_of" (ae "self")) (ae "number")))
noncomputable def gp (ns : List Int) : ST := (aq (jv ns) (aq (ju ns) ar))
theorem sD {C : Cx} (G : Gl C Hd.vw) (hz : C.held = none)  {bk N : Addr} {mN : Str → Option Value} (B : Bk C bk N mN) (h_need : MtAt C mN 0 "need" (sp_need C.ns)) : HS C (Hd.fS (Hd.cB Hd.TB 29) 4) 1 (Hd.fB (Hd.cB Hd.TB 29) 4) (gp C.ns) :=
 (ah (ba (aW G.ok B h_need (by decide) dW (ac rfl rfl) (af (ac rfl rfl) ak rfl) rfl (fun _ => rfl) rfl (by decide)) (fun _ _ => rfl))
 (ah (aH (aZ G (cr B dH (B.look "made_of" (by decide)) (ac rfl rfl) (fun _ => rfl)) (ac rfl rfl) rfl))
 aj))
theorem sm {C : Cx} (G : Gl C Hd.vw) (hz : C.held = none)  {bk N : Addr} {mN : Str → Option Value} (B : Bk C bk N mN) {P : Params} (KX : (Hd.kk P).In C.hB) (hN : N = Hd.bkN) (h_need : MtAt C mN 0 "need" (sp_need C.ns)) (hspec : ∀ vs σ Q, sp_parents C.ns vs σ Q → vs.length = 2 ∧ gp C.ns (aG ["self", "number"] vs aN) σ (fin Q)) : MtAt C mN 1 "parents" (sp_parents C.ns) :=
 MtAt.mk (xs := ["self", "number"]) G.ok B KX (Hd.m_parents P) (by subst hN; exact Hd.mn_parents P) rfl rfl rfl rfl rfl (fun ws h => by
  obtain ⟨w0, w1, rfl⟩ := m6 h
  rfl) rfl (sD G hz  B h_need) hspec
noncomputable def iD (ns : List Int) : ST :=
 (bO (a6 ca bg (dM "trees" (ae "self")) (ai (ae "tree") ay)))
noncomputable def iC (ns : List Int) : ST :=
 (bO (a6 ca bg (dM "made_of" (ae "self")) (ai (ae "parents") ay)))
noncomputable def iB (ns : List Int) : ST :=
 (bo (ax qT (aM (ci ns) (ai (dM "trees" (ae "self")) ay)) (az (.int 1))))
noncomputable def e9 (ns : List Int) : ST := (aq (iD ns) (aq (iC ns) (aq (iB ns) ar)))
theorem qu {C : Cx} (G : Gl C Hd.vw) (hz : C.held = none)  {bk N : Addr} {mN : Str → Option Value} (B : Bk C bk N mN)  : HS C (Hd.fS (Hd.cB Hd.TB 29) 5) 0 (Hd.fB (Hd.cB Hd.TB 29) 5) (e9 C.ns) :=
 (ah (ba (bS (cr B cw (B.look "trees" (by decide)) (ac rfl rfl) (fun _ => rfl)) (af (ac rfl rfl) ak rfl) rfl (fun _ => rfl) rfl (by decide)) (fun _ _ => rfl))
 (ah (ba (bS (cr B dH (B.look "made_of" (by decide)) (ac rfl rfl) (fun _ => rfl)) (af (ac rfl rfl) ak rfl) rfl (fun _ => rfl) rfl (by decide)) (fun _ _ => rfl))
 (ah (aH (aK tD (cD G rfl (af (cr B cw (B.look "trees" (by decide)) (ac rfl rfl) (fun _ => rfl)) ak rfl) rfl) aA))
 aj)))
theorem qg {C : Cx} (G : Gl C Hd.vw) (hz : C.held = none)  {bk N : Addr} {mN : Str → Option Value} (B : Bk C bk N mN) {P : Params} (KX : (Hd.kk P).In C.hB) (hN : N = Hd.bkN)  (hspec : ∀ vs σ Q, sp_put_down C.ns vs σ Q → vs.length = 3 ∧ e9 C.ns (aG ["self", "tree", "parents"] vs aN) σ (fin Q)) : MtAt C mN 0 "put_down" (sp_put_down C.ns) :=
 MtAt.mk (xs := ["self", "tree", "parents"]) G.ok B KX (Hd.m_put_down P) (by subst hN; exact Hd.mn_put_down P) rfl rfl rfl rfl rfl (fun ws h => by
  obtain ⟨w0, w1, w2, rfl⟩ := jJ h
  rfl) rfl (qu G hz  B ) hspec
noncomputable def mK (ns : List Int) : bN :=
 (xP (bO (be "need" (sp_need ns) (ae "self") (ai (ae "parent") ay))))
noncomputable def mJ (ns : List Int) : bN :=
 (wN (sO "put_down" (sp_put_down ns) (ae "self") (hZ (sp_changed ns) (ai (ax (aL ns) (dM "trees" (ae "self")) (ae "parent")) (ai (ae "deeds") ay))) (gY (ai (ae "parent") ay))))
noncomputable def jY (ns : List Int) : bN := (aV (mK ns) (aV (mJ ns) (xP ar)))
theorem wd {C : Cx} (G : Gl C Hd.vw) (hz : C.held = none)  {bk N : Addr} {mN : Str → Option Value} (B : Bk C bk N mN) (h_need : MtAt C mN 0 "need" (sp_need C.ns)) (h_put_down : MtAt C mN 0 "put_down" (sp_put_down C.ns)) (h_changed : FnAtX C 3 "changed" (sp_changed C.ns)) : HSX C (Hd.fS (Hd.cB Hd.TB 29) 6) 4 (Hd.fB (Hd.cB Hd.TB 29) 6) (jY C.ns) :=
 (HSX.cons (HSX1.plain (ba (aW G.ok B h_need (by decide) dW (ac rfl rfl) (af (ac rfl rfl) ak rfl) rfl (fun _ => rfl) rfl (by decide)) (fun _ _ => rfl)))
 (HSX.cons (HSX1.ret (HEX.mcallA G.ok B h_put_down (by decide) jj (ac rfl rfl) (HEX.callAt G h_changed (by decide) rfl rfl (af (aZ G (cr B cw (B.look "trees" (by decide)) (ac rfl rfl) (fun _ => rfl)) (ac rfl rfl) rfl) (af (ac rfl rfl) ak rfl) rfl) rfl) (dn (af (ac rfl rfl) ak rfl)) rfl rfl (fun _ => rfl) rfl))
 (HSX.plain aj)))
theorem vU {C : Cx} (G : Gl C Hd.vw) (hz : C.held = none)  {bk N : Addr} {mN : Str → Option Value} (B : Bk C bk N mN) {P : Params} (KX : (Hd.kk P).In C.hB) (hN : N = Hd.bkN) (h_need : MtAt C mN 0 "need" (sp_need C.ns)) (h_put_down : MtAt C mN 0 "put_down" (sp_put_down C.ns)) (h_changed : FnAtX C 3 "changed" (sp_changed C.ns)) (hspec : ∀ vs σ Q X, spX_grow C.ns vs σ Q X → vs.length = 3 ∧ jY C.ns (aG ["self", "parent", "deeds"] vs aN) σ (fin Q) (fun c _ σ' => X c σ')) : MtAtX C mN 4 "grow" (spX_grow C.ns) :=
 MtAtX.mk (xs := ["self", "parent", "deeds"]) G.ok B KX (Hd.m_grow P) (by subst hN; exact Hd.mn_grow P) rfl rfl rfl rfl rfl (fun ws h => by
  obtain ⟨w0, w1, w2, rfl⟩ := jJ h
  rfl) rfl (wd G hz  B h_need h_put_down h_changed) hspec
noncomputable def lu (ns : List Int) : ST :=
 (bO (be "need" (sp_need ns) (ae "self") (ai (ae "number") ay)))
noncomputable def hV (ns : List Int) : ST :=
 (bj "found" (jT (ae "number") (az (.bool true))))
noncomputable def hU (ns : List Int) : ST :=
 (cU (.name "k") (uf (ai (ae "number") (ai (vW ie (az (.int 1))) (ai (vW ie (az (.int 1))) ay)))) (aq (dP (aJ (ax qU (ae "k") (ae "found"))) (aq (cU (.name "parent") (gB ns (ax (aL ns) (dM "made_of" (ae "self")) (ae "k"))) (aq (bA vh (az (.bool true)) (ae "found") (ae "parent"))
 ar))
 ar) ar)
 ar))
noncomputable def hO (ns : List Int) : ST :=
 (bo (nf (ae "found")))
noncomputable def iF (ns : List Int) : ST := (aq (lu ns) (aq (hV ns) (aq (hU ns) (aq (hO ns) ar))))
theorem uL {C : Cx} (G : Gl C Hd.vw) (hz : C.held = none)  {bk N : Addr} {mN : Str → Option Value} (B : Bk C bk N mN) (h_need : MtAt C mN 0 "need" (sp_need C.ns)) : HS C (Hd.fS (Hd.cB Hd.TB 29) 8) 1 (Hd.fB (Hd.cB Hd.TB 29) 8) (iF C.ns) :=
 (ah (ba (aW G.ok B h_need (by decide) dW (ac rfl rfl) (af (ac rfl rfl) ak rfl) rfl (fun _ => rfl) rfl (by decide)) (fun _ _ => rfl))
 (ah (aF (.inl rfl) (mM (nI rfl rfl) wj) (fun _ _ => rfl))
 (ah (bc (aT rfl) (wl G hz rfl (af (ac rfl rfl) (af (pq kA aA) (af (pq kA aA) ak rfl) rfl) rfl) rfl) (ah (aQ (aO (tK G.ok) (ac rfl rfl) (ac rfl rfl) rfl) (ah (bc (aT rfl) (bC G.ok hz (aZ G (cr B dH (B.look "made_of" (by decide)) (ac rfl rfl) (fun _ => rfl)) (ac rfl rfl) rfl)) (ah (bV qV bd (ac rfl rfl) (ac rfl rfl) (fun _ _ => rfl))
 aj) (fun _ _ => rfl))
 aj) aj)
 aj) (fun _ _ => rfl))
 (ah (aH (lC G hz rfl (ac rfl rfl) (fun _ => rfl) rfl))
 aj))))
theorem uu {C : Cx} (G : Gl C Hd.vw) (hz : C.held = none)  {bk N : Addr} {mN : Str → Option Value} (B : Bk C bk N mN) {P : Params} (KX : (Hd.kk P).In C.hB) (hN : N = Hd.bkN) (h_need : MtAt C mN 0 "need" (sp_need C.ns)) (hspec : ∀ vs σ Q, sp_elders C.ns vs σ Q → vs.length = 2 ∧ iF C.ns (aG ["self", "number"] vs aN) σ (fin Q)) : MtAt C mN 1 "elders" (sp_elders C.ns) :=
 MtAt.mk (xs := ["self", "number"]) G.ok B KX (Hd.m_elders P) (by subst hN; exact Hd.mn_elders P) rfl rfl rfl rfl rfl (fun ws h => by
  obtain ⟨w0, w1, rfl⟩ := m6 h
  rfl) rfl (uL G hz  B h_need) hspec
noncomputable def jx (ns : List Int) : ST :=
 (bj "mine" (be "elders" (sp_elders ns) (ae "self") (ai (ae "one") ay)))
noncomputable def jw (ns : List Int) : ST :=
 (bo (aM mW (ai (jq ["mine"] (.name "number") (gB ns (be "elders" (sp_elders ns) (ae "self") (ai (ae "other") ay))) (aJ (ax tA (ae "number") (ae "mine"))) (ae "number")) ay)))
noncomputable def gq (ns : List Int) : ST := (aq (jx ns) (aq (jw ns) ar))
theorem sE {C : Cx} (G : Gl C Hd.vw) (hz : C.held = none)  {bk N : Addr} {mN : Str → Option Value} (B : Bk C bk N mN) (h_elders : MtAt C mN 1 "elders" (sp_elders C.ns)) : HS C (Hd.fS (Hd.cB Hd.TB 29) 9) 2 (Hd.fB (Hd.cB Hd.TB 29) 9) (gq C.ns) :=
 (ah (aF (.inr rfl) (aW G.ok B h_elders (by decide) l5 (ac rfl rfl) (af (ac rfl rfl) ak rfl) rfl (fun _ => rfl) rfl (by decide)) (fun _ _ => rfl))
 (ah (aH (wn G hz rfl (af (j0 (CompOk.of rfl) (bC G.ok hz (aW G.ok B h_elders (by decide) l5 (ac rfl rfl) (af (ac rfl rfl) ak rfl) rfl (fun _ => rfl) rfl (by decide))) (aT rfl) (rf (aO xu (ac rfl rfl) (nK rfl rfl) rfl)) (ac rfl rfl) (fun _ _ => rfl)) ak rfl) rfl))
 aj))
theorem sp {C : Cx} (G : Gl C Hd.vw) (hz : C.held = none)  {bk N : Addr} {mN : Str → Option Value} (B : Bk C bk N mN) {P : Params} (KX : (Hd.kk P).In C.hB) (hN : N = Hd.bkN) (h_elders : MtAt C mN 1 "elders" (sp_elders C.ns)) (hspec : ∀ vs σ Q, sp_nearest C.ns vs σ Q → vs.length = 3 ∧ gq C.ns (aG ["self", "one", "other"] vs aN) σ (fin Q)) : MtAt C mN 2 "nearest" (sp_nearest C.ns) :=
 MtAt.mk (xs := ["self", "one", "other"]) G.ok B KX (Hd.m_nearest P) (by subst hN; exact Hd.mn_nearest P) rfl rfl rfl rfl rfl (fun ws h => by
  obtain ⟨w0, w1, w2, rfl⟩ := jJ h
  rfl) rfl (sE G hz  B h_elders) hspec
noncomputable def lB (ns : List Int) : bN :=
 (xP (bO (be "need" (sp_need ns) (ae "self") (ai (ae "one") ay))))
noncomputable def lA (ns : List Int) : bN :=
 (xP (bO (be "need" (sp_need ns) (ae "self") (ai (ae "other") ay))))
noncomputable def ly (ns : List Int) : bN :=
 (sN (aJ (ax br (ae "one") (ae "other"))) (aV (d7 "SameVersion")
 (xP ar)) (xP ar))
noncomputable def lx (ns : List Int) : bN :=
 (xP (bj "elder" (be "nearest" (sp_nearest ns) (ae "self") (ai (ae "one") (ai (ae "other") ay)))))
noncomputable def lw (ns : List Int) : bN :=
 (ro "tree" (hZ (sp_joined ns) (ai (ax (aL ns) (dM "trees" (ae "self")) (ae "elder")) (ai (ax (aL ns) (dM "trees" (ae "self")) (ae "one")) (ai (ax (aL ns) (dM "trees" (ae "self")) (ae "other")) (ai (ae "picks") ay))))))
noncomputable def lv (ns : List Int) : ST :=
 (bo (be "put_down" (sp_put_down ns) (ae "self") (ai (ae "tree") (ai (gY (ai (aM nZ (ai (ae "one") (ai (ae "other") ay))) (ai (aM n4 (ai (ae "one") (ai (ae "other") ay))) ay))) ay))))
noncomputable def iJ (ns : List Int) : bN := (aV (lB ns) (aV (lA ns) (aV (ly ns) (aV (lx ns) (aV (lw ns) (xP (aq (lv ns) ar)))))))
theorem uM {C : Cx} (G : Gl C Hd.vw) (hz : C.held = none)  {ad : String → Addr} (Tb : XTab C nL p5 ad) {bk N : Addr} {mN : Str → Option Value} (B : Bk C bk N mN) (h_need : MtAt C mN 0 "need" (sp_need C.ns)) (h_nearest : MtAt C mN 2 "nearest" (sp_nearest C.ns)) (h_joined : FnAtX C 5 "joined" (sp_joined C.ns)) (h_put_down : MtAt C mN 0 "put_down" (sp_put_down C.ns)) : HSX C (Hd.fS (Hd.cB Hd.TB 29) 7) 6 (Hd.fB (Hd.cB Hd.TB 29) 7) (iJ C.ns) :=
 (HSX.cons (HSX1.plain (ba (aW G.ok B h_need (by decide) dW (ac rfl rfl) (af (ac rfl rfl) ak rfl) rfl (fun _ => rfl) rfl (by decide)) (fun _ _ => rfl)))
 (HSX.cons (HSX1.plain (ba (aW G.ok B h_need (by decide) dW (ac rfl rfl) (af (ac rfl rfl) ak rfl) rfl (fun _ => rfl) rfl (by decide)) (fun _ _ => rfl)))
 (HSX.cons (HSX1.ite (aO bu (ac rfl rfl) (ac rfl rfl) rfl) (HSX.cons (HSX1.raiseAt G hz Tb (by decide) rfl rfl)
 (HSX.plain aj)) (HSX.plain aj))
 (HSX.cons (HSX1.plain (aF (.inl rfl) (aW G.ok B h_nearest (by decide) dG (ac rfl rfl) (af (ac rfl rfl) (af (ac rfl rfl) ak rfl) rfl) rfl (fun _ => rfl) rfl (by decide)) (fun _ _ => rfl)))
 (HSX.cons (HSX1.set (.inl rfl) (HEX.callAt G h_joined (by decide) rfl rfl (af (aZ G (cr B cw (B.look "trees" (by decide)) (ac rfl rfl) (fun _ => rfl)) (ac rfl rfl) rfl) (af (aZ G (cr B cw (B.look "trees" (by decide)) (ac rfl rfl) (fun _ => rfl)) (ac rfl rfl) rfl) (af (aZ G (cr B cw (B.look "trees" (by decide)) (ac rfl rfl) (fun _ => rfl)) (ac rfl rfl) rfl) (af (ac rfl rfl) ak rfl) rfl) rfl) rfl) rfl) (fun _ _ => rfl))
 (HSX.plain (ah (aH (aW G.ok B h_put_down (by decide) jj (ac rfl rfl) (af (ac rfl rfl) (af (dn (af (ri G hz rfl (af (ac rfl rfl) (af (ac rfl rfl) ak rfl) rfl) rfl) (af (rj G hz rfl (af (ac rfl rfl) (af (ac rfl rfl) ak rfl) rfl) rfl) ak rfl) rfl)) ak rfl) rfl) rfl (fun _ => rfl) rfl (by decide)))
 aj)))))))
theorem ux {C : Cx} (G : Gl C Hd.vw) (hz : C.held = none)  {ad : String → Addr} (Tb : XTab C nL p5 ad) {bk N : Addr} {mN : Str → Option Value} (B : Bk C bk N mN) {P : Params} (KX : (Hd.kk P).In C.hB) (hN : N = Hd.bkN) (h_need : MtAt C mN 0 "need" (sp_need C.ns)) (h_nearest : MtAt C mN 2 "nearest" (sp_nearest C.ns)) (h_joined : FnAtX C 5 "joined" (sp_joined C.ns)) (h_put_down : MtAt C mN 0 "put_down" (sp_put_down C.ns)) (hspec : ∀ vs σ Q X, spX_merge C.ns vs σ Q X → vs.length = 4 ∧ iJ C.ns (aG ["self", "one", "other", "picks"] vs aN) σ (fin Q) (fun c _ σ' => X c σ')) : MtAtX C mN 6 "merge" (spX_merge C.ns) :=
 MtAtX.mk (xs := ["self", "one", "other", "picks"]) G.ok B KX (Hd.m_merge P) (by subst hN; exact Hd.mn_merge P) rfl rfl rfl rfl rfl (fun ws h => by
  obtain ⟨w0, w1, w2, w3, rfl⟩ := tZ h
  rfl) rfl (uM G hz  Tb B h_need h_nearest h_joined h_put_down) hspec
noncomputable def o6 (ns : List Int) : ST :=
 (bO (be "need" (sp_need ns) (ae "self") (ai (ae "elder") ay)))
noncomputable def o5 (ns : List Int) : ST :=
 (bO (be "need" (sp_need ns) (ae "self") (ai (ae "number") ay)))
noncomputable def o4 (ns : List Int) : ST :=
 (bj "came" (jT (ae "elder") (ae "elder")))
noncomputable def o3 (ns : List Int) : ST :=
 (cU (.name "k") (eY (ai (ax b0 (ae "elder") (az (.int 1))) (ai (ax b0 (ae "number") (az (.int 1))) ay))) (aq (cU (.name "parent") (gB ns (ax (aL ns) (dM "made_of" (ae "self")) (ae "k"))) (aq (dP (aJ (ax qU (ae "parent") (ae "came"))) (aq (bA vh (ae "parent") (ae "came") (ae "k"))
 ar) ar)
 ar))
 ar))
noncomputable def o0 (ns : List Int) : ST :=
 (dP (aJ (ax kw (ae "number") (ae "came"))) (aq (bo (az .none))
 ar) ar)
noncomputable def oZ (ns : List Int) : ST :=
 (bj "row" (eB (ai (ae "number") ay)))
noncomputable def uO (ns : List Int) : ST :=
 (ti (aJ (ax cc (ax (aL ns) (ae "row") (vW ie (az (.int 1)))) (ae "elder"))) (aq (bO (a6 ca bg (ae "row") (ai (ax ig (ae "came") (ax (aL ns) (ae "row") (vW ie (az (.int 1))))) ay)))
 ar))
noncomputable def oY (ns : List Int) : ST :=
 (bo (kS (ae "row")))
noncomputable def nz (ns : List Int) : ST := (aq (o6 ns) (aq (o5 ns) (aq (o4 ns) (aq (o3 ns) (aq (o0 ns) (aq (oZ ns) (aq (uO ns) (aq (oY ns) ar))))))))
theorem yb {C : Cx} (G : Gl C Hd.vw) (hz : C.held = none)  {bk N : Addr} {mN : Str → Option Value} (B : Bk C bk N mN) (hrev : C.mg (Str.ofString "reversed") = Option.none) (h_need : MtAt C mN 0 "need" (sp_need C.ns)) : HS C (Hd.fS (Hd.cB Hd.TB 29) 10) 1 (Hd.fB (Hd.cB Hd.TB 29) 10) (nz C.ns) :=
 (ah (ba (aW G.ok B h_need (by decide) dW (ac rfl rfl) (af (ac rfl rfl) ak rfl) rfl (fun _ => rfl) rfl (by decide)) (fun _ _ => rfl))
 (ah (ba (aW G.ok B h_need (by decide) dW (ac rfl rfl) (af (ac rfl rfl) ak rfl) rfl (fun _ => rfl) rfl (by decide)) (fun _ _ => rfl))
 (ah (aF (.inl rfl) (mM (nI rfl rfl) (nI rfl rfl)) (fun _ _ => rfl))
 (ah (bc (aT rfl) (je G hz rfl (af (aK bQ (ac rfl rfl) aA) (af (aK bQ (ac rfl rfl) aA) ak rfl) rfl) rfl) (ah (bc (aT rfl) (bC G.ok hz (aZ G (cr B dH (B.look "made_of" (by decide)) (ac rfl rfl) (fun _ => rfl)) (ac rfl rfl) rfl)) (ah (aQ (aO (tK G.ok) (ac rfl rfl) (ac rfl rfl) rfl) (ah (bV qV (ac rfl rfl) (ac rfl rfl) (ac rfl rfl) (fun _ _ => rfl))
 aj) aj)
 aj) (fun _ _ => rfl))
 aj) (fun _ _ => rfl))
 (ah (aQ (aO (rW G.ok) (ac rfl rfl) (ac rfl rfl) rfl) (ah (aH iM)
 aj) aj)
 (ah (aF (.inl rfl) (cR (af (ac rfl rfl) ak rfl)) (fun _ _ => rfl))
 (ah (sJ (aO dI (aZ G (ac rfl rfl) (pq kA aA) rfl) (ac rfl rfl) rfl) (ah (ba (bS (ac rfl rfl) (af (uS (ac rfl rfl) (aZ G (ac rfl rfl) (pq kA aA) rfl) rfl) ak rfl) rfl (fun _ => rfl) rfl (by decide)) (fun _ _ => rfl))
 aj))
 (ah (aH (qB G hz hrev rfl rfl (ac rfl rfl) rfl))
 aj))))))))
theorem xH {C : Cx} (G : Gl C Hd.vw) (hz : C.held = none)  {bk N : Addr} {mN : Str → Option Value} (B : Bk C bk N mN) (hrev : C.mg (Str.ofString "reversed") = Option.none) {P : Params} (KX : (Hd.kk P).In C.hB) (hN : N = Hd.bkN) (h_need : MtAt C mN 0 "need" (sp_need C.ns)) (hspec : ∀ vs σ Q, sp_road C.ns vs σ Q → vs.length = 3 ∧ nz C.ns (aG ["self", "elder", "number"] vs aN) σ (fin Q)) : MtAt C mN 1 "road" (sp_road C.ns) :=
 MtAt.mk (xs := ["self", "elder", "number"]) G.ok B KX (Hd.m_road P) (by subst hN; exact Hd.mn_road P) rfl rfl rfl rfl rfl (fun ws h => by
  obtain ⟨w0, w1, w2, rfl⟩ := jJ h
  rfl) rfl (yb G hz  B hrev h_need) hspec
noncomputable def eG (ns : List Int) : ST :=
 (bo (ax (aL ns) (az (.str (Str.ofString "abcdefghijklmnopqrstuvwxyzABCDEFGHIJKLMNOPQRSTUVWXYZ0123456789.-_"))) (ax bP (ae "_law_k") (az (.int 65)))))
noncomputable def cO (ns : List Int) : ST := (aq (eG ns) ar)
theorem ld {C : Cx} (G : Gl C Hd.vw) (hz : C.held = none)   : HS C (aP Hd.vw 25) 0 (bv Hd.vw 25) (cO C.ns) :=
 (ah (aH (aZ G bD (aK bK (ac rfl rfl) aA) rfl))
 aj)
theorem kL {C : Cx} (G : Gl C Hd.vw) (hz : C.held = none)   (hspec : ∀ vs σ Q, sp__law_sign_by C.ns vs σ Q → vs.length = 1 ∧ cO C.ns (aG ["_law_k"] vs aN) σ (fin Q)) : FnAt C 0 "_law_sign_by" (sp__law_sign_by C.ns) :=
 FnAt.mk (xs := ["_law_k"]) G 13 25 rfl rfl rfl rfl rfl (fun ws pm code doc h => by
  obtain ⟨w0, rfl⟩ := oq h
  rfl) rfl (ld G hz  ) hspec
noncomputable def eJ (ns : List Int) : ST :=
 (bj "_law_parts" (eB ay))
noncomputable def eI (ns : List Int) : ST :=
 (cU (.name "_law_j") (eY (ai (ax b0 (az (.int 1)) (ax bP (ae "_law_cell") (az (.int 2)))) ay)) (aq (bj "_law_some" (eB (ai (aM (sp__law_sign_by ns) (ai (ae "_law_shift") ay)) (ai (aM (sp__law_sign_by ns) (ai (ax b0 (ae "_law_shift") (az (.int 26))) ay)) (ai (ax b0 (aM (sp__law_sign_by ns) (ai (ae "_law_shift") ay)) (aM (sp__law_sign_by ns) (ai (ax b0 (ae "_law_shift") (az (.int 1))) ay))) ay)))))
 (aq (bj "_law_part" (ax (aL ns) (ae "_law_some") (ax bP (ax gH (ax gH (ae "_law_cell") (az (.int 2))) (ax (aL ns) (eB (ai (az (.int 1)) (ai (az (.int 3)) ay))) (ae "_law_j"))) (az (.int 3)))))
 (aq (dP (aJ (ax br (ae "_law_part") (az (.str (Str.ofString "."))))) (aq (bj "_law_part" (az (.str (Str.ofString "0x"))))
 ar) ar)
 (aq (bO (a6 ca bg (ae "_law_parts") (ai (ae "_law_part") ay)))
 ar)))))
noncomputable def eH (ns : List Int) : ST :=
 (dP (aJ (ax br (ax bP (ae "_law_shift") (az (.int 5))) (az (.int 3)))) (aq (bj "_law_parts" (ax b0 (jq [] (.name "_law_j") (eY (ai (ax b0 (az (.int 1)) (ax bP (ax gH (ae "_law_shift") (az (.int 5))) (az (.int 6)))) ay)) tT (ax b0 (az (.str (Str.ofString "up"))) (aM qN (ai (ae "_law_j") ay)))) (ae "_law_parts")))
 (aq (dP (aJ (ax br (ax bP (ae "_law_cell") (az (.int 13))) (az (.int 6)))) (aq (bj "_law_parts" (uC ns (ae "_law_parts") qS (l3 (ax b0 (az (.int 1)) (ax bP (ax gH (ae "_law_cell") (az (.int 13))) (aM (ci ns) (ai (ae "_law_parts") ay)))))))
 ar) ar)
 ar)) ar)
noncomputable def cZ (ns : List Int) : ST :=
 (bo (a6 ej j8 (az (.str (Str.ofString "/"))) (ai (ae "_law_parts") ay)))
noncomputable def cP (ns : List Int) : ST := (aq (eJ ns) (aq (eI ns) (aq (eH ns) (aq (cZ ns) ar))))
theorem lf {C : Cx} (G : Gl C Hd.vw) (hz : C.held = none)  (h__law_sign_by : FnAt C 0 "_law_sign_by" (sp__law_sign_by C.ns)) : HS C (aP Hd.vw 26) 1 (bv Hd.vw 26) (cP C.ns) :=
 (ah (aF (.inl rfl) (cR ak) (fun _ _ => rfl))
 (ah (bc (aT rfl) (je G hz rfl (af (aK bQ aA (aK bK (ac rfl rfl) aA)) ak rfl) rfl) (ah (aF (.inl rfl) (cR (af (aR G h__law_sign_by (by decide) rfl rfl (af (ac rfl rfl) ak rfl) rfl) (af (aR G h__law_sign_by (by decide) rfl rfl (af (aK bQ (ac rfl rfl) aA) ak rfl) rfl) (af (aK bQ (aR G h__law_sign_by (by decide) rfl rfl (af (ac rfl rfl) ak rfl) rfl) (aR G h__law_sign_by (by decide) rfl rfl (af (aK bQ (ac rfl rfl) aA) ak rfl) rfl)) ak rfl) rfl) rfl)) (fun _ _ => rfl))
 (ah (aF (.inl rfl) (aZ G (ac rfl rfl) (aK bK (aK fL (aK fL (ac rfl rfl) aA) (aZ G (cR (af aA (af aA ak rfl) rfl)) (ac rfl rfl) rfl)) aA) rfl) (fun _ _ => rfl))
 (ah (aQ (aO bu (ac rfl rfl) bD rfl) (ah (aF (.inl rfl) bD (fun _ _ => rfl))
 aj) aj)
 (ah (ba (bS (ac rfl rfl) (af (ac rfl rfl) ak rfl) rfl (fun _ => rfl) rfl (by decide)) (fun _ _ => rfl))
 aj)))) (fun _ _ => rfl))
 (ah (aQ (aO bu (aK bK (ac rfl rfl) aA) aA rfl) (ah (aF (.inl rfl) (aK bQ (j0 (CompOk.of rfl) (je G hz rfl (af (aK bQ aA (aK bK (aK fL (ac rfl rfl) aA) aA)) ak rfl) rfl) (aT rfl) nH (aK bQ bD (wm G rfl (af (ac rfl rfl) ak rfl) rfl)) (fun _ _ => rfl)) (ac rfl rfl)) (fun _ _ => rfl))
 (ah (aQ (aO bu (aK bK (ac rfl rfl) aA) aA rfl) (ah (aF (.inl rfl) (qE G.ok (ac rfl rfl) rg (jZ (aK bQ aA (aK bK (aK fL (ac rfl rfl) aA) (cD G rfl (af (ac rfl rfl) ak rfl) rfl))))) (fun _ _ => rfl))
 aj) aj)
 aj)) aj)
 (ah (aH (rk bD (af (ac rfl rfl) ak rfl) rfl (fun _ => rfl) rfl (by decide)))
 aj))))
theorem kM {C : Cx} (G : Gl C Hd.vw) (hz : C.held = none)  (h__law_sign_by : FnAt C 0 "_law_sign_by" (sp__law_sign_by C.ns)) (hspec : ∀ vs σ Q, sp__law_path_by C.ns vs σ Q → vs.length = 2 ∧ cP C.ns (aG ["_law_cell", "_law_shift"] vs aN) σ (fin Q)) : FnAt C 1 "_law_path_by" (sp__law_path_by C.ns) :=
 FnAt.mk (xs := ["_law_cell", "_law_shift"]) G 14 26 rfl rfl rfl rfl rfl (fun ws pm code doc h => by
  obtain ⟨w0, w1, rfl⟩ := m6 h
  rfl) rfl (lf G hz  h__law_sign_by) hspec
noncomputable def d5 (ns : List Int) : ST :=
 (bj "_law_deeds" (eB ay))
noncomputable def d4 (ns : List Int) : ST :=
 (cU (.name "_law_j") (eY (ai (ax b0 (az (.int 1)) (ax bP (ae "_law_cell") (az (.int 3)))) ay)) (aq (bj "_law_mixed" (ax bP (ax gG (ax b0 (ae "_law_cell") (ax gG (az (.int 1000003)) (ax b0 (ae "_law_j") (az (.int 1))))) (az (.int 48271))) (az (.int 131071))))
 (aq (bj "_law_path" (aM (sp__law_path_by ns) (ai (ae "_law_mixed") (ai (ae "_law_shift") ay))))
 (aq (dP (lI (aJ (ax cG (ae "_law_path") (ae "_law_tree"))) (lI (aJ (ax br (ax bP (ax gH (ae "_law_mixed") (az (.int 18))) (az (.int 3))) (az (.int 0)))) tT)) (aq (bO (a6 ca bg (ae "_law_deeds") (ai (gY (ai (az (.str (Str.ofString "cut"))) (ai (ae "_law_path") ay))) ay)))
 ar) (aq (bO (a6 ca bg (ae "_law_deeds") (ai (gY (ai (az (.str (Str.ofString "put"))) (ai (ae "_law_path") (ai (aM (sp__law_sign_by ns) (ai (ax b0 (ax bP (ax gH (ae "_law_mixed") (az (.int 54))) (az (.int 3))) (ae "_law_shift")) ay)) ay)))) ay)))
 ar))
 ar))))
noncomputable def dZ (ns : List Int) : ST :=
 (bo (ae "_law_deeds"))
noncomputable def cz (ns : List Int) : ST := (aq (d5 ns) (aq (d4 ns) (aq (dZ ns) ar)))
theorem jL {C : Cx} (G : Gl C Hd.vw) (hz : C.held = none)  (h__law_path_by : FnAt C 1 "_law_path_by" (sp__law_path_by C.ns)) (h__law_sign_by : FnAt C 0 "_law_sign_by" (sp__law_sign_by C.ns)) : HS C (aP Hd.vw 27) 2 (bv Hd.vw 27) (cz C.ns) :=
 (ah (aF (.inl rfl) (cR ak) (fun _ _ => rfl))
 (ah (bc (aT rfl) (je G hz rfl (af (aK bQ aA (aK bK (ac rfl rfl) aA)) ak rfl) rfl) (ah (aF (.inl rfl) (aK bK (aK iY (aK bQ (ac rfl rfl) (aK iY aA (aK bQ (ac rfl rfl) aA))) aA) aA) (fun _ _ => rfl))
 (ah (aF (.inl rfl) (aR G h__law_path_by (by decide) rfl rfl (af (ac rfl rfl) (af (ac rfl rfl) ak rfl) rfl) rfl) (fun _ _ => rfl))
 (ah (aQ (bU (gz (aO (dJ G.ok) (ac rfl rfl) (ac rfl rfl) rfl) (gz (aO bu (aK bK (aK fL (ac rfl rfl) aA) aA) aA rfl) hY))) (ah (ba (bS (ac rfl rfl) (af (dn (af bD (af (ac rfl rfl) ak rfl) rfl)) ak rfl) rfl (fun _ => rfl) rfl (by decide)) (fun _ _ => rfl))
 aj) (ah (ba (bS (ac rfl rfl) (af (dn (af bD (af (ac rfl rfl) (af (aR G h__law_sign_by (by decide) rfl rfl (af (aK bQ (aK bK (aK fL (ac rfl rfl) aA) aA) (ac rfl rfl)) ak rfl) rfl) ak rfl) rfl) rfl)) ak rfl) rfl (fun _ => rfl) rfl (by decide)) (fun _ _ => rfl))
 aj))
 aj))) (fun _ _ => rfl))
 (ah (aH (ac rfl rfl))
 aj)))
theorem jK {C : Cx} (G : Gl C Hd.vw) (hz : C.held = none)  (h__law_path_by : FnAt C 1 "_law_path_by" (sp__law_path_by C.ns)) (h__law_sign_by : FnAt C 0 "_law_sign_by" (sp__law_sign_by C.ns)) (hspec : ∀ vs σ Q, sp__law_deeds_by C.ns vs σ Q → vs.length = 3 ∧ cz C.ns (aG ["_law_cell", "_law_tree", "_law_shift"] vs aN) σ (fin Q)) : FnAt C 2 "_law_deeds_by" (sp__law_deeds_by C.ns) :=
 FnAt.mk (xs := ["_law_cell", "_law_tree", "_law_shift"]) G 15 27 rfl rfl rfl rfl rfl (fun ws pm code doc h => by
  obtain ⟨w0, w1, w2, rfl⟩ := jJ h
  rfl) rfl (jL G hz  h__law_path_by h__law_sign_by) hspec
noncomputable def eN (ns : List Int) : ST :=
 (dP (iP (j6 (aJ (aM df (ai (ae "_law_road") (ai (az (.ty "list")) ay))))) (iP (aJ (ax br (aM (ci ns) (ai (ae "_law_road") ay)) (az (.int 0)))) (iP (aJ (ax cc (ax (aL ns) (ae "_law_road") (az (.int 0))) (ae "_law_elder"))) (iP (aJ (ax cc (ax (aL ns) (ae "_law_road") (vW ie (az (.int 1)))) (ae "_law_number"))) tF)))) (aq (bo (az (.bool false)))
 ar) ar)
noncomputable def eM (ns : List Int) : ST :=
 (cU (.name "_law_k") (eY (ai (az (.int 1)) (ai (aM (ci ns) (ai (ae "_law_road") ay)) ay))) (aq (dP (aJ (ax ic (ax (aL ns) (ae "_law_road") (ax qT (ae "_law_k") (az (.int 1)))) (be "parents" (sp_parents ns) (ae "_law_book") (ai (ax (aL ns) (ae "_law_road") (ae "_law_k")) ay)))) (aq (bo (az (.bool false)))
 ar) ar)
 ar))
noncomputable def eK (ns : List Int) : ST :=
 (bo (az (.bool true)))
noncomputable def cQ (ns : List Int) : ST := (aq (eN ns) (aq (eM ns) (aq (eK ns) ar)))
theorem lg {C : Cx} (G : Gl C Hd.vw) (hz : C.held = none)  {bk N : Addr} {mN : Str → Option Value} (B : Bk C bk N mN) (h_parents : MtAt C mN 1 "parents" (sp_parents C.ns)) : HS C (aP Hd.vw 28) 2 (bv Hd.vw 28) (cQ C.ns) :=
 (ah (aQ (bU (bT (fg (dO (qC G rfl (af (ac rfl rfl) (af (uT G rfl) ak rfl) rfl) rfl) (fun _ _ => rfl))) (bT (aO bu (cD G rfl (af (ac rfl rfl) ak rfl) rfl) aA rfl) (bT (aO dI (aZ G (ac rfl rfl) aA rfl) (ac rfl rfl) rfl) (bT (aO dI (aZ G (ac rfl rfl) (pq kA aA) rfl) (ac rfl rfl) rfl) cI))))) (ah (aH bd)
 aj) aj)
 (ah (bc (aT rfl) (je G hz rfl (af aA (af (cD G rfl (af (ac rfl rfl) ak rfl) rfl) ak rfl) rfl) rfl) (ah (aQ (aO l6 (aZ G (ac rfl rfl) (aK tD (ac rfl rfl) aA) rfl) (aW G.ok B h_parents (by decide) kz (ac rfl rfl) (af (aZ G (ac rfl rfl) (ac rfl rfl) rfl) ak rfl) rfl (fun _ => rfl) rfl (by decide)) rfl) (ah (aH bd)
 aj) aj)
 aj) (fun _ _ => rfl))
 (ah (aH bd)
 aj)))
theorem kN {C : Cx} (G : Gl C Hd.vw) (hz : C.held = none)  {bk N : Addr} {mN : Str → Option Value} (B : Bk C bk N mN) (h_parents : MtAt C mN 1 "parents" (sp_parents C.ns)) (hspec : ∀ vs σ Q, sp__law_is_road C.ns vs σ Q → vs.length = 4 ∧ cQ C.ns (aG ["_law_book", "_law_road", "_law_elder", "_law_number"] vs aN) σ (fin Q)) : FnAt C 2 "_law_is_road" (sp__law_is_road C.ns) :=
 FnAt.mk (xs := ["_law_book", "_law_road", "_law_elder", "_law_number"]) G 16 28 rfl rfl rfl rfl rfl (fun ws pm code doc h => by
  obtain ⟨w0, w1, w2, w3, rfl⟩ := tZ h
  rfl) rfl (lg G hz  B h_parents) hspec
noncomputable def cb (ns : List Int) : ST :=
 (dP (aJ (ax br (aM (ci ns) (ai (ae "_law_clash") ay)) (az (.int 1)))) (aq (bj "_law_was" (a6 bq cv (ae "_law_elder") (ai (ax (aL ns) (ae "_law_clash") (az (.int 0))) ay)))
 (aq (bj "_law_left" (a6 bq cv (ae "_law_one") (ai (ax (aL ns) (ae "_law_clash") (az (.int 0))) ay)))
 (aq (bo (ql (ax cc (ae "_law_left") (ae "_law_was")) (ql (ax cc (a6 bq cv (ae "_law_other") (ai (ax (aL ns) (ae "_law_clash") (az (.int 0))) ay)) (ae "_law_was")) (ax cc (ae "_law_left") (a6 bq cv (ae "_law_other") (ai (ax (aL ns) (ae "_law_clash") (az (.int 0))) ay))))))
 ar))) ar)
noncomputable def cW (ns : List Int) : ST :=
 (cU (.name "_law_path") (gB ns (ae "_law_clash")) (aq (dP (iP (aJ (ax cG (ae "_law_path") (ae "_law_elder"))) (iP (aJ (ax br (ax cG (ae "_law_path") (ae "_law_one")) (ax cG (ae "_law_path") (ae "_law_other")))) tF)) (aq (bo (az (.bool false)))
 ar) ar)
 ar))
noncomputable def cV (ns : List Int) : ST :=
 (bo (ql (ax cc (ax cG (ax (aL ns) (ae "_law_clash") (az (.int 0))) (ae "_law_one")) (ax cG (ax (aL ns) (ae "_law_clash") (az (.int 1))) (ae "_law_one"))) (a6 ej dF (ax (aL ns) (ae "_law_clash") (az (.int 1))) (ai (ax b0 (ax (aL ns) (ae "_law_clash") (az (.int 0))) (az (.str (Str.ofString "/")))) ay))))
noncomputable def bM (ns : List Int) : ST := (aq (cb ns) (aq (cW ns) (aq (cV ns) ar)))
theorem gD {C : Cx} (G : Gl C Hd.vw) (hz : C.held = none)   : HS C (aP Hd.vw 29) 0 (bv Hd.vw 29) (bM C.ns) :=
 (ah (aQ (aO bu (cD G rfl (af (ac rfl rfl) ak rfl) rfl) aA rfl) (ah (aF (.inl rfl) (bZ G (ac rfl rfl) (af (aZ G (ac rfl rfl) aA rfl) ak rfl) rfl (fun _ => rfl) rfl (by decide)) (fun _ _ => rfl))
 (ah (aF (.inl rfl) (bZ G (ac rfl rfl) (af (aZ G (ac rfl rfl) aA rfl) ak rfl) rfl (fun _ => rfl) rfl (by decide)) (fun _ _ => rfl))
 (ah (aH (eO (iL (cu dI (ac rfl rfl) (ac rfl rfl) rfl) (iL (cu dI (bZ G (ac rfl rfl) (af (aZ G (ac rfl rfl) aA rfl) ak rfl) rfl (fun _ => rfl) rfl (by decide)) (ac rfl rfl) rfl) (iK (cu dI (ac rfl rfl) (bZ G (ac rfl rfl) (af (aZ G (ac rfl rfl) aA rfl) ak rfl) rfl (fun _ => rfl) rfl (by decide)) rfl))))))
 aj))) aj)
 (ah (bc (aT rfl) (bC G.ok hz (ac rfl rfl)) (ah (aQ (bU (bT (aO (dJ G.ok) (ac rfl rfl) (ac rfl rfl) rfl) (bT (aO bu (cu (dJ G.ok) (ac rfl rfl) (ac rfl rfl) rfl) (cu (dJ G.ok) (ac rfl rfl) (ac rfl rfl) rfl) rfl) cI))) (ah (aH bd)
 aj) aj)
 aj) (fun _ _ => rfl))
 (ah (aH (eO (iL (cu dI (cu (dJ G.ok) (aZ G (ac rfl rfl) aA rfl) (ac rfl rfl) rfl) (cu (dJ G.ok) (aZ G (ac rfl rfl) aA rfl) (ac rfl rfl) rfl) rfl) (iK (jf (aZ G (ac rfl rfl) aA rfl) (af (aK bQ (aZ G (ac rfl rfl) aA rfl) bD) ak rfl) rfl (fun _ => rfl) rfl (by decide))))))
 aj)))
theorem gC {C : Cx} (G : Gl C Hd.vw) (hz : C.held = none)   (hspec : ∀ vs σ Q, sp__law_both_changed C.ns vs σ Q → vs.length = 4 ∧ bM C.ns (aG ["_law_clash", "_law_elder", "_law_one", "_law_other"] vs aN) σ (fin Q)) : FnAt C 0 "_law_both_changed" (sp__law_both_changed C.ns) :=
 FnAt.mk (xs := ["_law_clash", "_law_elder", "_law_one", "_law_other"]) G 17 29 rfl rfl rfl rfl rfl (fun ws pm code doc h => by
  obtain ⟨w0, w1, w2, w3, rfl⟩ := tZ h
  rfl) rfl (gD G hz  ) hspec
noncomputable def fp (ns : List Int) : ST :=
 (cU (.name "_law_path") (gB ns (kP (ax b0 (ax b0 (ax b0 (aM eR (ai (ae "_law_made") ay)) (aM eR (ai (ae "_law_elder") ay))) (aM eR (ai (ae "_law_one") ay))) (aM eR (ai (ae "_law_other") ay))))) (aq (bj "_law_was" (a6 bq cv (ae "_law_elder") (ai (ae "_law_path") ay)))
 (aq (bj "_law_left" (a6 bq cv (ae "_law_one") (ai (ae "_law_path") ay)))
 (aq (bj "_law_right" (a6 bq cv (ae "_law_other") (ai (ae "_law_path") ay)))
 (aq (dP (aJ (ax cG (ae "_law_path") (ae "_law_picks"))) (aq (bj "_law_due" (ax dU (ae "_law_picks") (ae "_law_path")))
 ar) (aq (dP (iP (aJ (ax br (ae "_law_left") (ae "_law_right"))) (iP (aJ (ax br (ae "_law_right") (ae "_law_was"))) tF)) (aq (bj "_law_due" (ae "_law_left"))
 ar) (aq (dP (aJ (ax br (ae "_law_left") (ae "_law_was"))) (aq (bj "_law_due" (ae "_law_right"))
 ar) (aq (bo (az (.bool false)))
 ar))
 ar))
 ar))
 (aq (dP (iP (aJ (ax cc (a6 bq cv (ae "_law_made") (ai (ae "_law_path") ay)) (ae "_law_due"))) (iP (aJ (ax cc (ax cG (ae "_law_path") (ae "_law_made")) (ax c9 (ae "_law_due") (az .none)))) tF)) (aq (bo (az (.bool false)))
 ar) ar)
 ar))))))
noncomputable def fo (ns : List Int) : ST :=
 (cU (.name "_law_path") (gB ns (ae "_law_made")) (aq (cU (.name "_law_lower") (gB ns (ae "_law_made")) (aq (dP (aJ (a6 ej dF (ae "_law_lower") (ai (ax b0 (ae "_law_path") (az (.str (Str.ofString "/")))) ay))) (aq (bo (az (.bool false)))
 ar) ar)
 ar))
 ar))
noncomputable def fm (ns : List Int) : ST :=
 (bo (az (.bool true)))
noncomputable def db (ns : List Int) : ST := (aq (fp ns) (aq (fo ns) (aq (fm ns) ar)))
theorem lP {C : Cx} (G : Gl C Hd.vw) (hz : C.held = none)   : HS C (aP Hd.vw 30) 0 (bv Hd.vw 30) (db C.ns) :=
 (ah (bc (aT rfl) (bC G.ok hz (nJ G hz rfl rfl (aK bQ (aK bQ (aK bQ (iN G hz rfl (af (ac rfl rfl) ak rfl) rfl) (iN G hz rfl (af (ac rfl rfl) ak rfl) rfl)) (iN G hz rfl (af (ac rfl rfl) ak rfl) rfl)) (iN G hz rfl (af (ac rfl rfl) ak rfl) rfl)) rfl)) (ah (aF (.inl rfl) (bZ G (ac rfl rfl) (af (ac rfl rfl) ak rfl) rfl (fun _ => rfl) rfl (by decide)) (fun _ _ => rfl))
 (ah (aF (.inl rfl) (bZ G (ac rfl rfl) (af (ac rfl rfl) ak rfl) rfl (fun _ => rfl) rfl (by decide)) (fun _ _ => rfl))
 (ah (aF (.inl rfl) (bZ G (ac rfl rfl) (af (ac rfl rfl) ak rfl) rfl (fun _ => rfl) rfl (by decide)) (fun _ _ => rfl))
 (ah (aQ (aO (dJ G.ok) (ac rfl rfl) (ac rfl rfl) rfl) (ah (aF (.inl rfl) (lD (ac rfl rfl) (ac rfl rfl) rfl) (fun _ _ => rfl))
 aj) (ah (aQ (bU (bT (aO bu (ac rfl rfl) (ac rfl rfl) rfl) (bT (aO bu (ac rfl rfl) (ac rfl rfl) rfl) cI))) (ah (aF (.inl rfl) (ac rfl rfl) (fun _ _ => rfl))
 aj) (ah (aQ (aO bu (ac rfl rfl) (ac rfl rfl) rfl) (ah (aF (.inl rfl) (ac rfl rfl) (fun _ _ => rfl))
 aj) (ah (aH bd)
 aj))
 aj))
 aj))
 (ah (aQ (bU (bT (aO dI (bZ G (ac rfl rfl) (af (ac rfl rfl) ak rfl) rfl (fun _ => rfl) rfl (by decide)) (ac rfl rfl) rfl) (bT (aO dI (cu (dJ G.ok) (ac rfl rfl) (ac rfl rfl) rfl) (cu kB (ac rfl rfl) iM rfl) rfl) cI))) (ah (aH bd)
 aj) aj)
 aj))))) (fun _ _ => rfl))
 (ah (bc (aT rfl) (bC G.ok hz (ac rfl rfl)) (ah (bc (aT rfl) (bC G.ok hz (ac rfl rfl)) (ah (aQ (dO (jf (ac rfl rfl) (af (aK bQ (ac rfl rfl) bD) ak rfl) rfl (fun _ => rfl) rfl (by decide)) (fun _ _ => rfl)) (ah (aH bd)
 aj) aj)
 aj) (fun _ _ => rfl))
 aj) (fun _ _ => rfl))
 (ah (aH bd)
 aj)))
theorem lM {C : Cx} (G : Gl C Hd.vw) (hz : C.held = none)   (hspec : ∀ vs σ Q, sp__law_stands C.ns vs σ Q → vs.length = 5 ∧ db C.ns (aG ["_law_made", "_law_elder", "_law_one", "_law_other", "_law_picks"] vs aN) σ (fin Q)) : FnAt C 0 "_law_stands" (sp__law_stands C.ns) :=
 FnAt.mk (xs := ["_law_made", "_law_elder", "_law_one", "_law_other", "_law_picks"]) G 18 30 rfl rfl rfl rfl rfl (fun ws pm code doc h => by
  obtain ⟨w0, w1, w2, w3, w4, rfl⟩ := Am h
  rfl) rfl (lP G hz  ) hspec
noncomputable def f8 (ns : List Int) : bN :=
 (xP (bj "_law_one" (ax bP (ax bP (ax gG (ae "_law_cell") (az (.int 69621))) (az (.int 104729))) (be "many" (sp_many ns) (ae "_law_book") ay))))
noncomputable def f7 (ns : List Int) : bN :=
 (xP (bj "_law_other" (ax bP (ax bP (ax gG (ae "_law_cell") (az (.int 16807))) (az (.int 99991))) (be "many" (sp_many ns) (ae "_law_book") ay))))
noncomputable def f6 (ns : List Int) : bN :=
 (xP (bj "_law_near" (be "nearest" (sp_nearest ns) (ae "_law_book") (ai (ae "_law_one") (ai (ae "_law_other") ay)))))
noncomputable def f5 (ns : List Int) : bN :=
 (xP (dP (aJ (ax cc (ae "_law_near") (be "nearest" (sp_nearest ns) (ae "_law_book") (ai (ae "_law_other") (ai (ae "_law_one") ay))))) (aq (bo (az (.bool false)))
 ar) ar))
noncomputable def f4 (ns : List Int) : bN :=
 (xP (cU (.name "_law_number") (gB ns (eB (ai (ae "_law_one") (ai (ae "_law_other") ay)))) (aq (dP (j6 (aJ (aM (sp__law_is_road ns) (ai (ae "_law_book") (ai (be "road" (sp_road ns) (ae "_law_book") (ai (ae "_law_near") (ai (ae "_law_number") ay))) (ai (ae "_law_near") (ai (ae "_law_number") ay))))))) (aq (bo (az (.bool false)))
 ar) ar)
 ar)))
noncomputable def f0 (ns : List Int) : bN :=
 (xP (bj "_law_elder" (be "tree" (sp_tree ns) (ae "_law_book") (ai (ae "_law_near") ay))))
noncomputable def fZ (ns : List Int) : bN :=
 (xP (bj "_law_left" (be "tree" (sp_tree ns) (ae "_law_book") (ai (ae "_law_one") ay))))
noncomputable def fY (ns : List Int) : bN :=
 (xP (bj "_law_right" (be "tree" (sp_tree ns) (ae "_law_book") (ai (ae "_law_other") ay))))
noncomputable def fX (ns : List Int) : bN :=
 (xP (bj "_law_found" (aM (sp_clashes ns) (ai (ae "_law_elder") (ai (ae "_law_left") (ai (ae "_law_right") ay))))))
noncomputable def fu (ns : List Int) : bN :=
 (xP (cU (.name "_law_clash") (gB ns (ae "_law_found")) (aq (dP (j6 (aJ (aM (sp__law_both_changed ns) (ai (ae "_law_clash") (ai (ae "_law_elder") (ai (ae "_law_left") (ai (ae "_law_right") ay))))))) (aq (bo (az (.bool false)))
 ar) ar)
 ar)))
noncomputable def ft (ns : List Int) : bN :=
 (xP (bj "_law_picks" gZ))
noncomputable def fq (ns : List Int) : bN :=
 (xP (dP (aJ (ax pT (ax bP (ax gH (ae "_law_cell") (az (.int 7))) (az (.int 3))) (az (.int 0)))) (aq (cU (.name "_law_clash") (gB ns (ae "_law_found")) (aq (bA gA (ax (aL ns) (eB (ai (az .none) (ai (az (.str (Str.ofString "x"))) ay))) (aM qO (ai (ql (ax br (aM (ci ns) (ai (ae "_law_clash") ay)) (az (.int 1))) (ax br (ax bP (ax gH (ae "_law_cell") (az (.int 21))) (az (.int 2))) (az (.int 1)))) ay))) (ae "_law_picks") (ax (aL ns) (ae "_law_clash") (az (.int 0))))
 ar))
 ar) ar))
noncomputable def cy (ns : List Int) : bN :=
 (nO nL (aV (ro "_law_number" (j1 "merge" (spX_merge ns) (ae "_law_book") (ai (ae "_law_one") (ai (ae "_law_other") (ai (ae "_law_picks") ay)))))
 (xP ar)) (aq (bo (Au (ax br (ae "_law_one") (ae "_law_other")) (ax pT (aM (ci ns) (ai (ae "_law_found") ay)) (az (.int 0)))))
 ar))
noncomputable def cx (ns : List Int) : bN :=
 (xP (dP (iP (aJ (ax br (ae "_law_one") (ae "_law_other"))) (iP (lI (aJ (ax pT (aM (ci ns) (ai (ae "_law_found") ay)) (az (.int 0)))) (lI (aJ (ax br (aM (ci ns) (ai (ae "_law_picks") ay)) (az (.int 0)))) tT)) tF)) (aq (bo (az (.bool false)))
 ar) ar))
noncomputable def b8 (ns : List Int) : bN :=
 (xP (bj "_law_made" (be "tree" (sp_tree ns) (ae "_law_book") (ai (ae "_law_number") ay))))
noncomputable def b7 (ns : List Int) : bN :=
 (sP (Ad (j6 (aJ (aM (sp__law_stands ns) (ai (ae "_law_made") (ai (ae "_law_elder") (ai (ae "_law_left") (ai (ae "_law_right") (ai (ae "_law_picks") ay)))))))) (wO tv (hZ (sp_joined ns) (ai (ae "_law_elder") (ai (ae "_law_right") (ai (ae "_law_left") (ai (ae "_law_picks") ay))))) (ae "_law_made"))) (xP (aq (bo (az (.bool false)))
 ar)) (xP ar))
noncomputable def bG (ns : List Int) : ST :=
 (dP (aJ (ax tt (be "parents" (sp_parents ns) (ae "_law_book") (ai (ae "_law_number") ay)) (gY (ai (aM nZ (ai (ae "_law_one") (ai (ae "_law_other") ay))) (ai (aM n4 (ai (ae "_law_one") (ai (ae "_law_other") ay))) ay))))) (aq (bo (az (.bool false)))
 ar) ar)
noncomputable def bF (ns : List Int) : ST :=
 (bo (ql (ax br (be "nearest" (sp_nearest ns) (ae "_law_book") (ai (ae "_law_number") (ai (ae "_law_one") ay))) (ae "_law_one")) (ax br (be "nearest" (sp_nearest ns) (ae "_law_book") (ai (ae "_law_other") (ai (ae "_law_number") ay))) (ae "_law_other"))))
noncomputable def dA (ns : List Int) : bN := (aV (f8 ns) (aV (f7 ns) (aV (f6 ns) (aV (f5 ns) (aV (f4 ns) (aV (f0 ns) (aV (fZ ns) (aV (fY ns) (aV (fX ns) (aV (fu ns) (aV (ft ns) (aV (fq ns) (aV (cy ns) (aV (cx ns) (aV (b8 ns) (aV (b7 ns) (xP (aq (bG ns) (aq (bF ns) ar)))))))))))))))))))
theorem nn {C : Cx} (G : Gl C Hd.vw) (hz : C.held = none)  {ad : String → Addr} (Tb : XTab C nL p5 ad) {bk N : Addr} {mN : Str → Option Value} (B : Bk C bk N mN) (h_many : MtAt C mN 0 "many" (sp_many C.ns)) (h_nearest : MtAt C mN 2 "nearest" (sp_nearest C.ns)) (h_road : MtAt C mN 1 "road" (sp_road C.ns)) (h__law_is_road : FnAt C 2 "_law_is_road" (sp__law_is_road C.ns)) (h_tree : MtAt C mN 1 "tree" (sp_tree C.ns)) (h_clashes : FnAt C 4 "clashes" (sp_clashes C.ns)) (h__law_both_changed : FnAt C 0 "_law_both_changed" (sp__law_both_changed C.ns)) (h__law_stands : FnAt C 0 "_law_stands" (sp__law_stands C.ns)) (h_joined : FnAtX C 5 "joined" (sp_joined C.ns)) (h_parents : MtAt C mN 1 "parents" (sp_parents C.ns)) (h_merge : MtAtX C mN 6 "merge" (spX_merge C.ns)) : HSX C (aP Hd.vw 31) 7 (bv Hd.vw 31) (dA C.ns) :=
 (HSX.cons (HSX1.plain (aF (.inl rfl) (aK bK (aK bK (aK iY (ac rfl rfl) aA) aA) (aW G.ok B h_many (by decide) m0 (ac rfl rfl) ak rfl (fun _ => rfl) rfl (by decide))) (fun _ _ => rfl)))
 (HSX.cons (HSX1.plain (aF (.inl rfl) (aK bK (aK bK (aK iY (ac rfl rfl) aA) aA) (aW G.ok B h_many (by decide) m0 (ac rfl rfl) ak rfl (fun _ => rfl) rfl (by decide))) (fun _ _ => rfl)))
 (HSX.cons (HSX1.plain (aF (.inl rfl) (aW G.ok B h_nearest (by decide) dG (ac rfl rfl) (af (ac rfl rfl) (af (ac rfl rfl) ak rfl) rfl) rfl (fun _ => rfl) rfl (by decide)) (fun _ _ => rfl)))
 (HSX.cons (HSX1.plain (aQ (aO dI (ac rfl rfl) (aW G.ok B h_nearest (by decide) dG (ac rfl rfl) (af (ac rfl rfl) (af (ac rfl rfl) ak rfl) rfl) rfl (fun _ => rfl) rfl (by decide)) rfl) (ah (aH bd)
 aj) aj))
 (HSX.cons (HSX1.plain (bc (aT rfl) (bC G.ok hz (cR (af (ac rfl rfl) (af (ac rfl rfl) ak rfl) rfl))) (ah (aQ (fg (dO (aR G h__law_is_road (by decide) rfl rfl (af (ac rfl rfl) (af (aW G.ok B h_road (by decide) vu (ac rfl rfl) (af (ac rfl rfl) (af (ac rfl rfl) ak rfl) rfl) rfl (fun _ => rfl) rfl (by decide)) (af (ac rfl rfl) (af (ac rfl rfl) ak rfl) rfl) rfl) rfl) rfl) (fun _ _ => rfl))) (ah (aH bd)
 aj) aj)
 aj) (fun _ _ => rfl)))
 (HSX.cons (HSX1.plain (aF (.inl rfl) (aW G.ok B h_tree (by decide) ii (ac rfl rfl) (af (ac rfl rfl) ak rfl) rfl (fun _ => rfl) rfl (by decide)) (fun _ _ => rfl)))
 (HSX.cons (HSX1.plain (aF (.inl rfl) (aW G.ok B h_tree (by decide) ii (ac rfl rfl) (af (ac rfl rfl) ak rfl) rfl (fun _ => rfl) rfl (by decide)) (fun _ _ => rfl)))
 (HSX.cons (HSX1.plain (aF (.inl rfl) (aW G.ok B h_tree (by decide) ii (ac rfl rfl) (af (ac rfl rfl) ak rfl) rfl (fun _ => rfl) rfl (by decide)) (fun _ _ => rfl)))
 (HSX.cons (HSX1.plain (aF (.inl rfl) (aR G h_clashes (by decide) rfl rfl (af (ac rfl rfl) (af (ac rfl rfl) (af (ac rfl rfl) ak rfl) rfl) rfl) rfl) (fun _ _ => rfl)))
 (HSX.cons (HSX1.plain (bc (aT rfl) (bC G.ok hz (ac rfl rfl)) (ah (aQ (fg (dO (aR G h__law_both_changed (by decide) rfl rfl (af (ac rfl rfl) (af (ac rfl rfl) (af (ac rfl rfl) (af (ac rfl rfl) ak rfl) rfl) rfl) rfl) rfl) (fun _ _ => rfl))) (ah (aH bd)
 aj) aj)
 aj) (fun _ _ => rfl)))
 (HSX.cons (HSX1.plain (aF (.inl rfl) ga (fun _ _ => rfl)))
 (HSX.cons (HSX1.plain (aQ (aO oh (aK bK (aK fL (ac rfl rfl) aA) aA) aA rfl) (ah (bc (aT rfl) (bC G.ok hz (ac rfl rfl)) (ah (bV gf (aZ G (cR (af iM (af bD ak rfl) rfl)) (wq G rfl (af (eO (iL (cu bu (cD G rfl (af (ac rfl rfl) ak rfl) rfl) aA rfl) (iK (cu bu (aK bK (aK fL (ac rfl rfl) aA) aA) aA rfl)))) ak rfl) rfl) rfl) (ac rfl rfl) (aZ G (ac rfl rfl) aA rfl) (fun _ _ => rfl))
 aj) (fun _ _ => rfl))
 aj) aj))
 (HSX.cons (HSX1.tryU G hz Tb (HSX.cons (HSX1.set (.inl rfl) (HEX.mcall G.ok B h_merge (by decide) tC (ac rfl rfl) (af (ac rfl rfl) (af (ac rfl rfl) (af (ac rfl rfl) ak rfl) rfl) rfl) rfl (fun _ => rfl) rfl (by decide)) (fun _ _ => rfl))
 (HSX.plain aj)) (by decide) (by decide) rfl rfl (fun e o vs hez hof hd h2 => (ah (aH (eO (yh (cu bu (ac rfl rfl) (ac rfl rfl) rfl) (iK (cu oh (cD (G.hold hez hof hd h2) rfl (af (ac rfl rfl) ak rfl) rfl) aA rfl)))))
 aj)))
 (HSX.cons (HSX1.plain (aQ (bU (bT (aO bu (ac rfl rfl) (ac rfl rfl) rfl) (bT (bU (gz (aO oh (cD G rfl (af (ac rfl rfl) ak rfl) rfl) aA rfl) (gz (aO bu (cD G rfl (af (ac rfl rfl) ak rfl) rfl) aA rfl) hY))) cI))) (ah (aH bd)
 aj) aj))
 (HSX.cons (HSX1.plain (aF (.inl rfl) (aW G.ok B h_tree (by decide) ii (ac rfl rfl) (af (ac rfl rfl) ak rfl) rfl (fun _ => rfl) rfl (by decide)) (fun _ _ => rfl)))
 (HSX.cons (HSX1.iteX (HBX.or1 (fg (dO (aR G h__law_stands (by decide) rfl rfl (af (ac rfl rfl) (af (ac rfl rfl) (af (ac rfl rfl) (af (ac rfl rfl) (af (ac rfl rfl) ak rfl) rfl) rfl) rfl) rfl) rfl) (fun _ _ => rfl))) (HBX.cmp (vz G.ok) (HEX.callAt G h_joined (by decide) rfl rfl (af (ac rfl rfl) (af (ac rfl rfl) (af (ac rfl rfl) (af (ac rfl rfl) ak rfl) rfl) rfl) rfl) rfl) (ac rfl rfl) rfl)) (HSX.plain (ah (aH bd)
 aj)) (HSX.plain aj))
 (HSX.plain (ah (aQ (aO xh (aW G.ok B h_parents (by decide) kz (ac rfl rfl) (af (ac rfl rfl) ak rfl) rfl (fun _ => rfl) rfl (by decide)) (dn (af (ri G hz rfl (af (ac rfl rfl) (af (ac rfl rfl) ak rfl) rfl) rfl) (af (rj G hz rfl (af (ac rfl rfl) (af (ac rfl rfl) ak rfl) rfl) rfl) ak rfl) rfl)) rfl) (ah (aH bd)
 aj) aj)
 (ah (aH (eO (iL (cu bu (aW G.ok B h_nearest (by decide) dG (ac rfl rfl) (af (ac rfl rfl) (af (ac rfl rfl) ak rfl) rfl) rfl (fun _ => rfl) rfl (by decide)) (ac rfl rfl) rfl) (iK (cu bu (aW G.ok B h_nearest (by decide) dG (ac rfl rfl) (af (ac rfl rfl) (af (ac rfl rfl) ak rfl) rfl) rfl (fun _ => rfl) rfl (by decide)) (ac rfl rfl) rfl)))))
 aj)))))))))))))))))))
theorem nb {C : Cx} (G : Gl C Hd.vw) (hz : C.held = none)  {ad : String → Addr} (Tb : XTab C nL p5 ad) {bk N : Addr} {mN : Str → Option Value} (B : Bk C bk N mN) (h_many : MtAt C mN 0 "many" (sp_many C.ns)) (h_nearest : MtAt C mN 2 "nearest" (sp_nearest C.ns)) (h_road : MtAt C mN 1 "road" (sp_road C.ns)) (h__law_is_road : FnAt C 2 "_law_is_road" (sp__law_is_road C.ns)) (h_tree : MtAt C mN 1 "tree" (sp_tree C.ns)) (h_clashes : FnAt C 4 "clashes" (sp_clashes C.ns)) (h__law_both_changed : FnAt C 0 "_law_both_changed" (sp__law_both_changed C.ns)) (h__law_stands : FnAt C 0 "_law_stands" (sp__law_stands C.ns)) (h_joined : FnAtX C 5 "joined" (sp_joined C.ns)) (h_parents : MtAt C mN 1 "parents" (sp_parents C.ns)) (h_merge : MtAtX C mN 6 "merge" (spX_merge C.ns)) (hspec : ∀ vs σ Q X, sp__law_joins C.ns vs σ Q X → vs.length = 3 ∧ dA C.ns (aG ["_law_book", "_law_cell", "_law_shift"] vs aN) σ (fin Q) (fun c _ σ' => X c σ')) : FnAtX C 7 "_law_joins" (sp__law_joins C.ns) :=
 FnAtX.mk (xs := ["_law_book", "_law_cell", "_law_shift"]) G 19 31 rfl rfl rfl rfl rfl (fun ws pm code doc h => by
  obtain ⟨w0, w1, w2, rfl⟩ := jJ h
  rfl) rfl (nn G hz  Tb B h_many h_nearest h_road h__law_is_road h_tree h_clashes h__law_both_changed h__law_stands h_joined h_parents h_merge) hspec
noncomputable def rd (ns : List Int) : bN :=
 (xP (bj "_law_shift" (az (.int 0))))
noncomputable def rc (ns : List Int) : bN :=
 (xP (dP (aJ (ax pT (aM (ci ns) (ai (ae "_law_script") ay)) (az (.int 0)))) (aq (bj "_law_shift" (ax (aL ns) (ae "_law_script") (az (.int 0))))
 ar) ar))
noncomputable def nE (ns : List Int) : bN :=
 (xP (bj "_law_book" (xR (sp___init__ ns))))
noncomputable def nC (ns : List Int) : bN :=
 (mO (.name "_law_cell") (gB ns (uC ns (ae "_law_script") (l3 (az (.int 1))) (l3 (az (.int 31))))) (aV (sN (aJ (ax tw (ax bP (ax bP (ax gG (ae "_law_cell") (az (.int 48271))) (az (.int 65537))) (az (.int 8))) (az (.int 5)))) (aV (xP (bj "_law_parent" (ax bP (ax bP (ax gG (ae "_law_cell") (az (.int 69621))) (az (.int 104729))) (be "many" (sp_many ns) (ae "_law_book") ay))))
 (aV (nO nL (aV (qH (j1 "grow" (spX_grow ns) (ae "_law_book") (ai (ae "_law_parent") (ai (aM (sp__law_deeds_by ns) (ai (ae "_law_cell") (ai (be "tree" (sp_tree ns) (ae "_law_book") (ai (ae "_law_parent") ay)) (ai (ae "_law_shift") ay)))) ay))))
 (xP ar)) (aq qQ
 ar))
 (xP ar))) (aV (sP (qG (hZ (sp__law_joins ns) (ai (ae "_law_book") (ai (ae "_law_cell") (ai (ae "_law_shift") ay))))) (xP (aq (bo (az (.bool false)))
 ar)) (xP ar))
 (xP ar)))
 (xP ar)))
noncomputable def jW (ns : List Int) : ST :=
 (bo (az (.bool true)))
noncomputable def re (ns : List Int) : bN := (aV (rd ns) (aV (rc ns) (aV (nE ns) (aV (nC ns) (xP (aq (jW ns) ar))))))
theorem zC {C : Cx} (G : Gl C Hd.vw) (hz : C.held = none)  {ad : String → Addr} (Tb : XTab C nL p5 ad) {bk N : Addr} {mN : Str → Option Value} (B : Bk C bk N mN) (h___init__ : MtAt C mN 0 "__init__" (sp___init__ C.ns)) (h_many : MtAt C mN 0 "many" (sp_many C.ns)) (h_tree : MtAt C mN 1 "tree" (sp_tree C.ns)) (h__law_deeds_by : FnAt C 2 "_law_deeds_by" (sp__law_deeds_by C.ns)) (h__law_joins : FnAtX C 7 "_law_joins" (sp__law_joins C.ns)) (h_grow : MtAtX C mN 4 "grow" (spX_grow C.ns)) : HSX C (aP Hd.vw 32) 8 (bv Hd.vw 32) (re C.ns) :=
 (HSX.cons (HSX1.plain (aF (.inl rfl) aA (fun _ _ => rfl)))
 (HSX.cons (HSX1.plain (aQ (aO oh (cD G rfl (af (ac rfl rfl) ak rfl) rfl) aA rfl) (ah (aF (.inl rfl) (aZ G (ac rfl rfl) aA rfl) (fun _ _ => rfl))
 aj) aj))
 (HSX.cons (HSX1.plain (aF (.inl rfl) (yj G.ok B h___init__ (by decide) rfl) (fun _ _ => rfl)))
 (HSX.cons (HSX1.for (aT rfl) (bC G.ok hz (qE G.ok (ac rfl rfl) (jZ aA) (jZ aA))) (HSX.cons (HSX1.ite (aO wG (aK bK (aK bK (aK iY (ac rfl rfl) aA) aA) aA) aA rfl) (HSX.cons (HSX1.plain (aF (.inl rfl) (aK bK (aK bK (aK iY (ac rfl rfl) aA) aA) (aW G.ok B h_many (by decide) m0 (ac rfl rfl) ak rfl (fun _ => rfl) rfl (by decide))) (fun _ _ => rfl)))
 (HSX.cons (HSX1.tryU G hz Tb (HSX.cons (HSX1.exprX (HEX.mcall G.ok B h_grow (by decide) vx (ac rfl rfl) (af (ac rfl rfl) (af (aR G h__law_deeds_by (by decide) rfl rfl (af (ac rfl rfl) (af (aW G.ok B h_tree (by decide) ii (ac rfl rfl) (af (ac rfl rfl) ak rfl) rfl (fun _ => rfl) rfl (by decide)) (af (ac rfl rfl) ak rfl) rfl) rfl) rfl) ak rfl) rfl) rfl (fun _ => rfl) rfl (by decide)) (fun _ _ => rfl))
 (HSX.plain aj)) (by decide) (by decide) rfl rfl (fun e o vs hez hof hd h2 => (ah uQ
 aj)))
 (HSX.plain aj))) (HSX.cons (HSX1.iteX (HBX.notV (HEX.callAt G h__law_joins (by decide) rfl rfl (af (ac rfl rfl) (af (ac rfl rfl) (af (ac rfl rfl) ak rfl) rfl) rfl) rfl) (fun _ _ => rfl)) (HSX.plain (ah (aH bd)
 aj)) (HSX.plain aj))
 (HSX.plain aj)))
 (HSX.plain aj)) (fun _ _ => rfl))
 (HSX.plain (ah (aH bd)
 aj))))))
theorem zq {C : Cx} (G : Gl C Hd.vw) (hz : C.held = none)  {ad : String → Addr} (Tb : XTab C nL p5 ad) {bk N : Addr} {mN : Str → Option Value} (B : Bk C bk N mN) (h___init__ : MtAt C mN 0 "__init__" (sp___init__ C.ns)) (h_many : MtAt C mN 0 "many" (sp_many C.ns)) (h_tree : MtAt C mN 1 "tree" (sp_tree C.ns)) (h__law_deeds_by : FnAt C 2 "_law_deeds_by" (sp__law_deeds_by C.ns)) (h__law_joins : FnAtX C 7 "_law_joins" (sp__law_joins C.ns)) (h_grow : MtAtX C mN 4 "grow" (spX_grow C.ns)) (hspec : ∀ vs σ Q X, mU C.ns vs σ Q X → vs.length = 1 ∧ re C.ns (aG ["_law_script"] vs aN) σ (fin Q) (fun c _ σ' => X c σ')) : FnAtX C 8 "law" (mU C.ns) :=
 FnAtX.mk (xs := ["_law_script"]) G 20 32 rfl rfl rfl rfl rfl (fun ws pm code doc h => by
  obtain ⟨w0, rfl⟩ := oq h
  rfl) rfl (zC G hz  Tb B h___init__ h_many h_tree h__law_deeds_by h__law_joins h_grow) hspec
end Mine
end
noncomputable section
set_option tactic.hygienic false
set_option maxHeartbeats 1000000
namespace Mine
open PySem PySem.W PyProof.Rows PySem.Calls
section
variable {K : List Str} {σ σ' σ'' : ag} {b t mo : Addr} {ads : List Addr} {ts : List (List (Str × V))} {ps : List (List Int)} {Q : V → ag → Prop}
theorem BookAt.grow (B : BookAt K σ b t mo ads ts ps) (g : Grow σ σ') : BookAt K σ' b t mo ads ts ps :=
 ⟨let ⟨dx, h1, h2⟩ := B.obj; ⟨dx, g _ _ h1, g _ _ h2⟩, g _ _ B.tr, g _ _ B.md, B.ne, B.len, B.lenP, fun i d e => let ⟨kvs, ep, h1, h2⟩ := B.at_ i d e; ⟨kvs, ep, h1, g _ _ h2⟩, B.un, B.tree, B.ord⟩
theorem nq {σ : ag} {b dx t : Addr} {x : String} {fs : List (String × V)} {Q : V → ag → Prop} (h1 : σ b = some (.inst dx)) (h2 : σ dx = some (.ns fs)) (h3 : fs.lookup x = some (.ref t)) : nr x (.ref b) σ Q = Q (.ref t) σ := by
 refine propext ⟨fun h => ?_, fun q => ⟨b, dx, fs, t, rfl, h1, h2, h3, q⟩⟩
 obtain ⟨a, dx', fs', t', e, g1, g2, g3, q⟩ := h
 cases e
 rw [h1] at g1; cases g1
 rw [h2] at g2; cases g2
 rw [h3] at g3; cases g3
 exact q
theorem e7 (B : BookAt K σ b t mo ads ts ps) : nr "trees" (.ref b) σ Q = Q (.ref t) σ := let ⟨dx, h1, h2⟩ := B.obj; nq h1 h2 (by simp [List.lookup])
theorem qx (B : BookAt K σ b t mo ads ts ps) : nr "made_of" (.ref b) σ Q = Q (.ref mo) σ := let ⟨dx, h1, h2⟩ := B.obj; nq h1 h2 (by simp [List.lookup])
theorem bh (B : BookAt K σ b t mo ads ts ps) {f : String} (h1 : (f == "made_of") = false) (h2 : (f == "trees") = false) : kG f (.ref b) σ = True := by
 obtain ⟨dx, h4, h5⟩ := B.obj
 exact eq_true ⟨b, dx, _, rfl, h4, h5, by simp [List.lookup, h1, h2]⟩
theorem BookAt.treeAt (B : BookAt K σ b t mo ads ts ps) {n : Nat} {kvs : List (Str × V)} (h : ts[n]? = some kvs) : ∃ d ep, ads[n]? = some d ∧ σ d = some (.dict kvs ep) := by
 have hlt : n < ads.length := by rw [B.len]; exact (List.getElem?_eq_some_iff.mp h).1
 obtain ⟨kvs', ep, h1, h2⟩ := B.at_ n _ (List.getElem?_eq_getElem hlt)
 rw [h] at h1; cases h1
 exact ⟨_, ep, List.getElem?_eq_getElem hlt, h2⟩
theorem BookAt.itemT (B : BookAt K σ b t mo ads ts ps) {n : Int} {kvs : List (Str × V)} {ns : List Int} (h0 : 0 ≤ n) (h : ts[n.toNat]? = some kvs) (q : ∀ d ep, σ d = some (.dict kvs ep) → Q (.ref d) σ) : aL ns (.ref t) (.int n) σ Q := by
 obtain ⟨d, ep, h1, h2⟩ := B.treeAt h
 exact co B.tr h0 (by rw [List.getElem?_map, h1]; rfl) (q d ep h2)
theorem BookAt.itemM (B : BookAt K σ b t mo ads ts ps) {n : Int} {l : List Int} {ns : List Int} (h0 : 0 ≤ n) (h : ps[n.toNat]? = some l) (q : Q (.tup (l.map .int)) σ) : aL ns (.ref mo) (.int n) σ Q :=
 co B.md h0 (by unfold jk; rw [List.getElem?_map, h]; rfl) q
@[simp] theorem An {i : Int} : df [.int i, .ty "bool"] σ Q = Q (.bool false) σ := by simp [df, onVT, on2, on1, isT, Mine.wH]
theorem tY (B : BookAt K σ b t mo ads ts ps) {ns : List Int} : ci ns [.ref t] σ Q = Q (.int ts.length) σ := by rw [dg B.tr, List.length_map, B.len]
theorem Grow.keep {S : List Addr} (g : Grow σ σ') (h : lQ S σ' σ'') : lQ S σ σ'' := fun b o e n => h b o (g b o e) n
end
theorem wY (ns : List Int) : ∀ vs σ Q, sp_need ns vs σ Q → vs.length = 2 ∧ nA ns (aG ["self", "number"] vs aN) σ (fin Q) := by
 rintro vs σ Q ⟨K, b, t, mo, ads, ts, ps, n, rfl, B, h0, h1, q⟩
 refine ⟨rfl, ?_⟩
 unfold nA
 rw [am]
 simp [o7, e7 B, tY B, h0, h1]
 exact q
theorem wZ (ns : List Int) : ∀ vs σ Q, sp_many ns vs σ Q → vs.length = 1 ∧ nB ns (aG ["self"] vs aN) σ (fin Q) := by
 rintro vs σ Q ⟨K, b, t, mo, ads, ts, ps, rfl, B, q⟩
 refine ⟨rfl, ?_⟩
 unfold nB
 rw [am]
 simp [o8, e7 B, tY B]
 exact q
theorem dX {ns : List Int} {K : List Str} {σ : ag} {b t mo : Addr} {ads : List Addr} {ts : List (List (Str × V))} {ps : List (List Int)} {Q : V → ag → Prop} (B : BookAt K σ b t mo ads ts ps) {n : Int} (h0 : 0 ≤ n) (h1 : n < ts.length) (q : Q .none σ) : sp_need ns [.ref b, .int n] σ Q := ⟨K, b, t, mo, ads, ts, ps, n, rfl, B, h0, h1, q⟩
theorem rH (ns : List Int) : ∀ vs σ Q, sp_parents ns vs σ Q → vs.length = 2 ∧ gp ns (aG ["self", "number"] vs aN) σ (fin Q) := by
 rintro vs σ Q ⟨K, b, t, mo, ads, ts, ps, n, l, rfl, B, h0, h, q⟩
 refine ⟨rfl, ?_⟩
 have h1 : n < ts.length := by
  have := (List.getElem?_eq_some_iff.mp h).1
  have := B.lenP
  omega
 unfold gp
 rw [am]
 simp [jv, bh B]
 refine dX B h0 h1 ?_
 rw [am]
 simp [ju, qx B]
 exact B.itemM h0 h q
theorem w5 (ns : List Int) : ∀ vs σ Q, sp___init__ ns vs σ Q → vs.length = 1 ∧ ff ns (aG ["self"] vs aN) σ (fin Q) := by
 rintro vs σ Q ⟨a, dx, rfl, ha, hd, q⟩
 refine ⟨rfl, ?_⟩
 unfold ff
 rw [am]
 simp [iI]
 intro d0 ep hd0 t ht
 have ht0 : t ≠ d0 := by rintro rfl; rw [an] at ht; cases ht
 rw [aI ht0] at ht
 have ne : ∀ {x y : Addr} {o : AObj}, σ x = some o → σ y = none → x ≠ y := by rintro x y o h1 h2 rfl; rw [h1] at h2; cases h2
 refine n5 (a := a) (dx := dx) (fs := []) ?_ ?_ (by simp) ?_
 ·rw [aI (ne ha ht), aI (ne ha hd0)]; exact ha
 ·rw [aI (ne hd ht), aI (ne hd hd0)]; exact hd
 rw [am]
 simp [iH]
 intro mo hmo
 have hda : dx ≠ a := by rintro rfl; rw [ha] at hd; cases hd
 have m1 : mo ≠ dx := by rintro rfl; rw [an] at hmo; cases hmo
 rw [aI m1] at hmo
 have m2 : mo ≠ t := by rintro rfl; rw [an] at hmo; cases hmo
 rw [aI m2] at hmo
 have m3 : mo ≠ d0 := by rintro rfl; rw [an] at hmo; cases hmo
 rw [aI m3] at hmo
 refine n5 (a := a) (dx := dx) ?_ ?_ ?_ ?_ (fs := [("trees", .ref t)])
 ·rw [aI (ne ha hmo), aI (Ne.symm hda), aI (ne ha ht), aI (ne ha hd0)]; exact ha
 ·rw [aI (Ne.symm m1), an]
 ·simp
 ·refine q t mo d0 ep _ ?_ ?_ ?_ ?_ ?_ (Ne.symm m2) ht hmo hd0
  ·intro x o hx hn
   have hxd : x ≠ dx := by simpa using hn
   rw [aI hxd, aI (ne hx hmo), aI hxd, aI (ne hx ht), aI (ne hx hd0)]; exact hx
  ·rw [an]
  ·rw [aI (ne hd ht).symm, aI (Ne.symm m2), aI (ne hd ht).symm, an]
  ·rw [aI m1, an]
  ·rw [aI (ne hd hd0).symm, aI (Ne.symm m3), aI (ne hd hd0).symm, aI (Ne.symm ht0), an]
theorem Grow.over {σ σ' : ag} {b : Addr} {o : AObj} (g : Grow σ σ') (hb : σ b = Option.none) : Grow σ (Mine.a8 σ' b o) := fun c o' e => by
 rw [aI (by rintro rfl; rw [hb] at e; cases e)]; exact g c o' e
theorem gV {kvs : List (Str × V)} {i : Nat} {v : V} (h : (kvs.map fun q => V.str q.1)[i]? = some v) : ∃ y, (keysOf kvs)[i]? = some y ∧ v = .str y := by
 rw [List.getElem?_map] at h
 obtain ⟨q, hq, rfl⟩ := Option.map_eq_some_iff.mp h
 exact ⟨q.1, by unfold keysOf; rw [List.getElem?_map, hq]; rfl, rfl⟩
theorem tq {ps : List (List Int)} {l : List Int} (o : Ord ps) (hz : ps.length < 40) (h2 : l.length ≤ 2) (h3 : l ≠ []) (hl : ∀ p ∈ l, 0 ≤ p ∧ p < (ps.length : Int)) : Ord (ps ++ [l]) := by
 have at_ : ∀ (k : Nat) m, (ps ++ [l])[k]? = some m → ps[k]? = some m ∨ (k = ps.length ∧ m = l) := fun k m e => by
  rcases Nat.lt_or_ge k ps.length with hi | hi
  ·rw [List.getElem?_append_left hi] at e; exact .inl e
  ·rw [List.getElem?_append_right hi] at e
   have hi2 : k - ps.length = 0 := by
    have := (List.getElem?_eq_some_iff.mp e).1
    simpa using this
   rw [hi2] at e
   simp at e
   exact .inr ⟨Nat.le_antisymm (Nat.le_of_sub_eq_zero hi2) hi, e.symm⟩
 refine ⟨fun k m e => ?_, fun k m e => ?_, fun k m e hk => ?_, by rw [List.length_append]; exact hz, by rw [List.length_append]; exact Nat.succ_pos _⟩
 ·rcases at_ k m e with h | ⟨rfl, rfl⟩
  ·exact o.two k m h
  ·exact h2
 ·rcases at_ k m e with h | ⟨rfl, rfl⟩
  ·exact o.lt k m h
  ·exact hl
 ·rcases at_ k m e with h | ⟨rfl, rfl⟩
  ·exact o.some k m h hk
  ·exact h3
theorem vq {K : List Str} {σ : ag} {b t mo : Addr} {ads : List Addr} {ts : List (List (Str × V))} {ps : List (List Int)} (B : BookAt K σ b t mo ads ts ps) {d : Addr} {kvs : List (Str × V)} {ep : Nat} {l : List Int} (hd : σ d = some (.dict kvs ep)) (ht : Inn K kvs) (hz : ts.length < 40) (hl2 : l.length ≤ 2) (hl3 : l ≠ []) (hl : ∀ p ∈ l, 0 ≤ p ∧ p < (ts.length : Int)) :
  lQ [t, mo] σ (a8 (a8 σ t (.list (ads.map .ref ++ [.ref d]))) mo (.list (jk ps ++ [.tup (l.map .int)]))) ∧ BookAt K (a8 (a8 σ t (.list (ads.map .ref ++ [.ref d]))) mo (.list (jk ps ++ [.tup (l.map .int)]))) b t mo (ads ++ [d]) (ts ++ [kvs]) (ps ++ [l]) := by
 have K : lQ [t, mo] σ (a8 (a8 σ t (.list (ads.map .ref ++ [.ref d]))) mo (.list (jk ps ++ [.tup (l.map .int)]))) := by
  intro x o e n
  simp at n
  rw [aI n.2, aI n.1]; exact e
 obtain ⟨dx, h1, h2⟩ := B.obj
 have off : ∀ {x : Addr} {o : AObj}, σ x = some o → (∀ xs, o ≠ .list xs) → x ∉ [t, mo] := by
  intro x o e ho hm
  simp at hm
  rcases hm with rfl | rfl
  ·rw [B.tr] at e; cases e; exact ho _ rfl
  ·rw [B.md] at e; cases e; exact ho _ rfl
 refine ⟨K, ⟨⟨dx, K _ _ h1 (off h1 (by simp)), K _ _ h2 (off h2 (by simp))⟩, ?_, ?_, B.ne, by simp [B.len], by simp [B.lenP], fun i a e => ?_, B.un, fun k hk => ?_, tq B.ord (by rw [B.lenP]; exact hz) hl2 hl3 (by rw [B.lenP]; exact hl)⟩⟩
 ·rw [aI B.ne, an]; simp
 ·rw [an]; simp [jk]
 ·rcases Nat.lt_or_ge i ads.length with hi | hi
  ·rw [List.getElem?_append_left hi] at e
   obtain ⟨kv, ep', g1, g2⟩ := B.at_ i a e
   exact ⟨kv, ep', by rw [List.getElem?_append_left (by rw [← B.len]; exact hi)]; exact g1, K _ _ g2 (off g2 (by simp))⟩
  ·rw [List.getElem?_append_right hi] at e
   have hi2 : i - ads.length = 0 := by
    have := (List.getElem?_eq_some_iff.mp e).1
    simpa using this
   rw [hi2] at e
   simp at e
   subst e
   exact ⟨kvs, ep, by rw [List.getElem?_append_right (by rw [← B.len]; exact hi), ← B.len, hi2]; rfl, K _ _ hd (off hd (by simp))⟩
 ·rcases List.mem_append.mp hk with hk | hk
  ·exact B.tree _ hk
  ·simp at hk; subst hk; exact ht
theorem pM (ns : List Int) : ∀ vs σ Q, sp_put_down ns vs σ Q → vs.length = 3 ∧ e9 ns (aG ["self", "tree", "parents"] vs aN) σ (fin Q) := by
 rintro vs σ Q ⟨K, b, t, mo, ads, ts, ps, d, kvs, ep, l, rfl, B, hd, ht, hz, hl2, hl3, hl, q⟩
 refine ⟨rfl, ?_⟩
 obtain ⟨K, B'⟩ := vq B hd ht hz hl2 hl3 hl
 obtain ⟨dx, h1, h2⟩ := B.obj
 have bt : b ≠ t := by rintro rfl; rw [B.tr] at h1; cases h1
 have dt : dx ≠ t := by rintro rfl; rw [B.tr] at h2; cases h2
 have h1' : a8 σ t (.list (ads.map .ref ++ [.ref d])) b = some (.inst dx) := by rw [aI bt]; exact h1
 have h2' : a8 σ t (.list (ads.map .ref ++ [.ref d])) dx = some (.ns [("made_of", .ref mo), ("trees", .ref t)]) := by rw [aI dt]; exact h2
 have h3' : a8 σ t (.list (ads.map .ref ++ [.ref d])) mo = some (.list (jk ps)) := by rw [aI (Ne.symm B.ne)]; exact B.md
 have len := B.len
 have lenP := B.lenP
 unfold e9
 rw [am]
 simp [iD, e7 B, bX B.tr]
 refine cm B.tr (by rw [List.length_map]; exact oj fun hg => lN [(ts.length), (ads.length)] 0x160000005084850850209061 rfl hz (Nat.le_of_eq len) hg) ?_
 rw [am]
 simp [iC, nq h1' h2' (x := "made_of") (t := mo) (by simp [List.lookup]), bX h3']
 refine cm h3' (by simp [jk]; exact oj fun hg => lN [(ts.length), (ps.length)] 0x160000005084850850209061 rfl hz (Nat.le_of_eq lenP) hg) ?_
 rw [am]
 simp [iB, e7 B', tY B']
 exact q _ K B'
@[simp] theorem y7 (ns : List Int) {p : Str × Str} {σ : ag} {Q : V → ag → Prop} (q : Q (.str p.1) σ) : aL ns (pS p) (.int 1) σ Q := ⟨by show 3 < 16777217; decide, 1, _, rfl, rfl, q⟩
theorem y8 (ns : List Int) {p : Str × Str} {σ : ag} {Q : V → ag → Prop} (q : Q (.str (Str.ofString "put")) σ) : aL ns (pS p) (.int 0) σ Q := ⟨by show 3 < 16777217; decide, 0, _, rfl, rfl, q⟩
theorem y6 (ns : List Int) {p : Str × Str} {σ : ag} {Q : V → ag → Prop} (q : Q (.str p.2) σ) : aL ns (pS p) (.int 2) σ Q := ⟨by show 3 < 16777217; decide, 2, _, rfl, rfl, q⟩
theorem vZ : Str.ofString "put" ≠ Str.ofString "cut" := by decide
theorem Anc.le {ps : List (List Int)} (ho : ∀ (k : Nat) l, ps[k]? = some l → ∀ p ∈ l, 0 ≤ p ∧ p < (k : Int)) {n x : Int} (h : Anc ps n x) (h0 : 0 ≤ n) : 0 ≤ x ∧ x ≤ n := by
 induction h with
 | self n => exact ⟨h0, Int.le_refl _⟩
 | up h1 h2 _ ih =>
  have := ho _ _ h1 _ h2
  have := ih this.1
  omega
structure Found (ps : List (List Int)) (n : Int) (i : Nat) (kvs : List (Int × V)) : Prop where
 anc : ∀ x ∈ kvs.map (·.1), Anc ps n x
 self : n ∈ kvs.map (·.1)
 up : ∀ x ∈ kvs.map (·.1), n - i < x → ∀ l, ps[x.toNat]? = some l → ∀ p ∈ l, p ∈ kvs.map (·.1)
 nodup : (kvs.map (·.1)).Nodup
theorem Found.all {ps : List (List Int)} {n : Int} {i : Nat} {kvs : List (Int × V)} (F : Found ps n i kvs) (ho : ∀ (k : Nat) l, ps[k]? = some l → ∀ p ∈ l, 0 ≤ p ∧ p < (k : Int)) (h0 : 0 ≤ n) (hi : n < i) : ∀ x, x ∈ kvs.map (·.1) ↔ Anc ps n x := by
 intro x
 refine ⟨F.anc x, fun h => ?_⟩
 have key : ∀ {y x : Int}, Anc ps y x → y ∈ kvs.map (·.1) → x ∈ kvs.map (·.1) := by
  intro y x h
  induction h with
  | self _ => exact id
  | up h1 h2 _ ih =>
   intro hy
   have := ((F.anc _ hy).le ho h0).1
   exact ih (F.up _ hy (by omega) _ h1 _ h2)
 exact key h F.self
theorem ew : ∀ {n : Nat} {l : List Int}, l.Nodup → (∀ x ∈ l, 0 ≤ x ∧ x < (n : Int)) → l.length ≤ n
 | 0, [], _, _ => Nat.le_refl _
 | 0, x :: r, _, h => by have := h x (.head _); omega
 | n + 1, l, hn, h => by
  by_cases hm : (n : Int) ∈ l
  ·have h1 := ew (n := n) (l := l.erase n) (hn.erase _) fun x hx => by
    have h2 := (hn.mem_erase_iff).mp hx
    have h3 := h x h2.2
    have h4 := h2.1
    omega
   rw [List.length_erase_of_mem hm] at h1
   omega
  ·have h1 := ew (n := n) (l := l) hn fun x hx => by
    have h3 := h x hx
    have h4 : x ≠ n := fun e => hm (e ▸ hx)
    omega
   omega
theorem vO {l : List Int} (h : l.Nodup) : (lL l).Pairwise (· < ·) := by
 have h1 := jo l
 have h2 : (lL l).Nodup := (gh l).nodup_iff.mpr h
 rw [List.nodup_iff_pairwise_ne] at h2
 exact (h1.and h2).imp fun ⟨a, b⟩ => by omega
end Mine
end
noncomputable section
set_option tactic.hygienic false
set_option maxRecDepth 10000
namespace Mine
open PySem PySem.W PyProof.Rows PySem.Calls
theorem yV (ns : List Int) : ∀ vs σ Q, sp_is_part ns vs σ Q → vs.length = 1 ∧ gu ns (aG ["text"] vs aN) σ (fin Q) := by
 rintro vs σ Q ⟨x, rfl, hx, q⟩
 refine ⟨rfl, ?_⟩
 have loop : fU ns (put aN "text" (.str x)) σ (p6 (aq (fT ns) ar) (fin Q)) := by
  simp [fU]
  refine a5 (fun i m σ' => σ' = σ) (fun u m σ' => σ' = σ ∧ u = .bool false) (fun _ _ _ _ => trivial) _ ?_ ?_ ?_ _ _ rfl
  ·rintro i v m σ' Q' hv rfl n1 n2 n3
   unfold kg at hv
   rw [List.getElem?_map] at hv
   obtain ⟨c, hc, rfl⟩ := Option.map_eq_some_iff.mp hv
   refine ⟨_, rfl, ?_⟩
   simp [am]
   split
   ·exact n1 _ _ rfl
   ·exact n3 _ _ _ ⟨rfl, rfl⟩
  ·rintro m σ' rfl
   simpa [am, fT] using q true
  ·rintro u m σ' ⟨rfl, rfl⟩
   simpa using q false
 unfold gu
 rw [am]
 simp [jC, am]
 split
 ·exact q false
 ·split
  ·exact q false
  ·refine ⟨by exact Nat.le_trans hx (by decide), ?_⟩
   split
   ·split
    ·exact loop
    ·exact q false
   ·exact q false
theorem to {x p : Str} (hp : p ∈ Txt.split x (Str.ofString "/")) : p.length ≤ x.length := by
 have h := PyProof.Rows.split_weight x (Str.ofString "/") (by rw [ee]; exact Nat.le_refl 1)
 have key : ∀ l : List Str, p ∈ l → p.length + 1 ≤ (l.map (·.length)).sum + l.length := by
  intro l
  induction l with
  | nil => intro h; cases h
  | cons y r ih =>
   intro h
   simp only [List.map_cons, List.sum_cons, List.length_cons]
   rcases List.mem_cons.mp h with rfl | h
   ·omega
   ·have := ih h; omega
 exact Nat.le_of_succ_le_succ (Nat.le_trans (key _ hp) h)
theorem wX (ns : List Int) : ∀ vs σ Q, sp_is_path ns vs σ Q → vs.length = 1 ∧ gr ns (aG ["text"] vs aN) σ (fin Q) := by
 rintro vs σ Q ⟨x, rfl, hx, q⟩
 refine ⟨rfl, ?_⟩
 unfold gr
 rw [am]
 simp [jB, ee]
 refine ⟨by exact Nat.le_trans hx (by decide), fun a ha => ?_⟩
 have g : Grow σ (a8 σ a (.list ((Txt.split x (Str.ofString "/")).map .str))) := Grow.refl.upd ha
 have ha' := an σ a (.list ((Txt.split x (Str.ofString "/")).map .str))
 generalize (a8 σ a (.list ((Txt.split x (Str.ofString "/")).map .str))) = σ₁ at g ha' ⊢
 show aq _ _ _ _ _
 rw [am]
 simp [jA, dg ha', am]
 split
 ·exact q false σ₁ g
 ·simp [jz, bf ha']
  refine a5 (fun i m σ' => σ' = σ₁) (fun u m σ' => σ' = σ₁ ∧ u = .bool false) (fun i m σ' h => by rw [h]; exact ha') _ ?_ ?_ ?_ _ _ rfl
  ·rintro i v m σ' Q' hv rfl n1 n2 n3
   rw [List.getElem?_map] at hv
   obtain ⟨pt, hp, rfl⟩ := Option.map_eq_some_iff.mp hv
   refine ⟨_, rfl, ?_⟩
   simp [am]
   refine ⟨pt, rfl, Nat.le_trans (to (List.mem_of_getElem? hp)) hx, fun b => ?_⟩
   cases b with
   | true => simp; exact n1 _ _ rfl
   | false => simp; exact n3 _ _ _ ⟨rfl, rfl⟩
  ·rintro m σ' rfl
   simpa [am, jy] using q true σ' g
  ·rintro u m σ' ⟨rfl, rfl⟩
   simpa using q false σ' g
theorem yW (ns : List Int) : ∀ vs σ Q, sp_is_beneath ns vs σ Q → vs.length = 2 ∧ dz ns (aG ["path", "upper"] vs aN) σ (fin Q) := by
 rintro vs σ Q ⟨x, y, rfl, hy, q⟩
 refine ⟨rfl, ?_⟩
 unfold dz
 rw [am]
 simp [fV]
 exact ⟨by rw [ee]; exact Nat.lt_of_le_of_lt hy (by decide), q⟩
theorem dC {α : Type} [DecidableEq α] : ∀ {l m : List α}, l.Nodup → (∀ x ∈ l, x ∈ m) → l.length ≤ m.length
 | [], _, _, _ => Nat.zero_le _
 | x :: r, m, h, hs => by
  have hx := hs x (List.mem_cons_self ..)
  have h2 := List.nodup_cons.mp h
  have ih := dC (l := r) (m := m.erase x) h2.2 fun y hy => (List.mem_erase_of_ne (by rintro rfl; exact h2.1 hy)).mpr (hs y (List.mem_cons_of_mem _ hy))
  rw [List.length_erase_of_mem hx] at ih
  exact Nat.le_trans (Nat.succ_le_succ ih) (Nat.le_of_eq (Nat.succ_pred_eq_of_pos (List.length_pos_of_mem hx)))
section
variable {K : List Str} {kvs : List (Str × V)} {x : Str} {v : V}
theorem In0.len (h : In0 K kvs) (hK : Kp K) : kvs.length ≤ 18 := by
 have := dC h.nodup h.sub
 unfold keysOf at this
 rw [List.length_map] at this
 exact Nat.le_trans this hK.few
theorem In0.nil : In0 K [] := ⟨fun _ h => (nomatch h), fun _ h => (nomatch h), List.nodup_nil⟩
theorem In0.put {y : Str} (h : In0 K kvs) (hx : x ∈ K) : In0 K (bb kvs x (.str y)) :=
 ⟨fun z hz => ((bW _ _ _ z).mp hz).elim (fun e => e ▸ hx) (h.sub z), fun q hq => (jg hq).elim (fun e => ⟨y, by rw [e]⟩) (h.val q), d8 h.nodup⟩
theorem In0.cut (h : In0 K kvs) : In0 K (fw kvs x) :=
 ⟨fun z hz => h.sub z ((ei _ _ z).mp hz).2, fun q hq => h.val q (sQ hq), pA h.nodup⟩
theorem Inn.nil : Inn K [] := ⟨In0.nil, fun _ h => (nomatch h)⟩
theorem Inn.cut (h : Inn K kvs) : Inn K (fw kvs x) := ⟨h.i0.cut, fun z hz y hy => h.fre z ((ei _ _ z).mp hz).2 y ((ei _ _ y).mp hy).2⟩
theorem nW {x y : Str} (h : x.length < y.length) : Txt.startswith x y = false := by
 cases e : Txt.startswith x y with
 | false => rfl
 | true =>
  have := ((eQ _ _).mp e).length_le
  rw [← eZ, ← eZ] at this
  exact False.elim (lN [(x.length), (y.length)] 0x10a129061 rfl h this)
theorem gU (x y : Str) : (x ++ y).length = x.length + y.length := by rw [eZ, eD, List.length_append, ← eZ, ← eZ]
theorem tM (x : Str) : Txt.startswith x (x ++ Str.ofString "/") = false := nW (by rw [gU, ee]; exact Nat.lt_succ_self _)
theorem Inn.put {y : Str} (h : Inn K kvs) (hx : x ∈ K) (hf : ∀ z ∈ keysOf kvs, Txt.startswith x (z ++ Str.ofString "/") = false ∧ Txt.startswith z (x ++ Str.ofString "/") = false) : Inn K (bb kvs x (.str y)) :=
 ⟨h.i0.put hx, fun a ha b hb => by
  rcases (bW _ _ _ a).mp ha with e1 | h1
  ·rcases (bW _ _ _ b).mp hb with e2 | h2
   ·rw [e1, e2]; exact tM _
   ·rw [e1]; exact (hf b h2).1
  ·rcases (bW _ _ _ b).mp hb with e2 | h2
   ·rw [e2]; exact (hf a h1).2
   ·exact h.fre a h1 b h2⟩
end
theorem zv (ns : List Int) {x : Str} {σ : ag} {Q : V → ag → Prop} (q : Q (.str x) σ) : aL ns (uF x) (.int 1) σ Q := ⟨by show 2 < 16777217; decide, 1, _, rfl, rfl, q⟩
theorem zw (ns : List Int) {x : Str} {σ : ag} {Q : V → ag → Prop} (q : Q (.str (Str.ofString "cut")) σ) : aL ns (uF x) (.int 0) σ Q := ⟨by show 2 < 16777217; decide, 0, _, rfl, rfl, q⟩
structure DoneI (σ₂ : ag) (p y : Str) (b : Addr) (ks : List Str) (m : aU) (σ' : ag) : Prop where
 s : σ' = σ₂
 mp : m "path" = some (.str p)
 mf : m "fresh" = some (.ref b)
 md : m "deed" = some (pS (p, y))
 fr : ∀ z ∈ ks, Txt.startswith p (z ++ Str.ofString "/") = false ∧ Txt.startswith z (p ++ Str.ofString "/") = false
theorem w6 (ns : List Int) : ∀ vs σ Q X, sp_done ns vs σ Q X → vs.length = 2 ∧ nF ns (aG ["tree", "deed"] vs aN) σ (fin Q) (fun c _ σ' => X c σ') := by
 rintro vs σ Q X ⟨K, a, kvs, ep, dd, rfl, ha, hK, ht, hD, hX, q⟩
 refine ⟨rfl, ?_⟩
 have len := ht.i0.len hK
 obtain ⟨p, hp, i1, hc⟩ : ∃ p, p ∈ K ∧ (∀ (Q' : V → ag → Prop) σ', Q' (.str p) σ' → aL ns dd (.int 1) σ' Q') ∧ (dd = uF p ∨ ∃ y, dd = pS (p, y)) := by
  cases hD with
  | put x y h => exact ⟨x, h, fun Q' σ' q => y7 ns (p := (x, y)) q, .inr ⟨y, rfl⟩⟩
  | cut x h => exact ⟨x, h, fun Q' σ' q => zv ns q, .inl rfl⟩
 have pl : p.length ≤ 1000 := Nat.le_trans (hK.len p hp) (by decide)
 unfold nF
 rw [aC]
 simp [pi]
 refine i1 _ _ ?_
 rw [aC]
 simp [ph]
 refine ⟨p, rfl, pl, fun ok σ₁ g1 => ?_⟩
 cases ok with
 | false =>
  simp [aC]
  exact hX _ σ₁ (by decide) g1
 | true =>
  simp
  rw [aC]
  simp [pg]
  have ha1 := g1 _ _ ha
  refine hE ha1 fun b eb hb => ?_
  have hbn := g1.none hb
  have xb := an σ₁ b (.dict kvs eb)
  have g2 : Grow σ (a8 σ₁ b (.dict kvs eb)) := g1.upd hb
  have ha2 : a8 σ₁ b (.dict kvs eb) a = some (.dict kvs ep) := by rw [aI (by rintro rfl; rw [ha1] at hb; cases hb)]; exact ha1
  generalize (a8 σ₁ b (.dict kvs eb)) = σ₂ at xb g2 ha2 ⊢
  show aV _ _ _ _ _ _
  rw [aC]
  simp [pf]
  rcases hc with rfl | ⟨y, rfl⟩
  ·refine zw ns ?_
   simp
   rw [aC]
   simp
   refine gQ xb ?_
   rw [bH]
   by_cases hin : p ∈ keysOf kvs
   ·have hin' : p ∈ kvs.map (·.1) := hin
    obtain ⟨v, hv, _⟩ := dc hin'
    simp only [decide_eq_true hin', Bool.not_true]
    simp [am, cA xb]
    refine n9 xb hv fun ep' => ?_
    exact q b _ ep' _ (g2.over hbn) hbn (an _ _ _) ht.cut
   ·have hin' : p ∉ kvs.map (·.1) := hin
    simp only [decide_eq_false hin', Bool.not_false]
    simp [aC]
    exact hX _ σ₂ (by decide) g2
  ·refine y8 ns ?_
   simp [vZ]
   rw [aC]
   simp [pe, cH ha2]
   refine eh (fun i m σ' => DoneI σ₂ p y b ((keysOf kvs).take i) m σ') (fun i m σ' h => by rw [h.s]; exact ha2) _ ?_ ?_ _ _ ⟨rfl, rfl, rfl, rfl, fun _ h => (nomatch h)⟩
   ·intro i v m σ' Q' hv I n1
    obtain ⟨z, hz, rfl⟩ := gV hv
    have hs := I.s
    subst hs
    have mp := I.mp
    have hzk := ht.i0.sub z (List.mem_of_getElem? hz)
    refine ⟨_, rfl, ?_⟩
    simp [aC, mp]
    refine ⟨p, z, rfl, Nat.le_trans (hK.len z hzk) (by decide), ?_⟩
    cases e : Txt.startswith p (z ++ Str.ofString "/") with
    | true => simp; exact hX _ σ' (by decide) g2
    | false =>
     simp
     refine ⟨z, p, rfl, pl, ?_⟩
     cases e2 : Txt.startswith z (p ++ Str.ofString "/") with
     | true => simp; exact hX _ σ' (by decide) g2
     | false =>
      simp
      refine n1 _ _ ⟨rfl, mp, I.mf, I.md, fun u hu => ?_⟩
      rw [List.take_add_one, hz] at hu
      rcases List.mem_append.mp hu with hu | hu
      ·exact I.fr u hu
      ·have hu : u = z := by simpa using hu
       subst hu; exact ⟨e, e2⟩
   ·intro m σ' I
    have hs := I.s
    subst hs
    have fr := I.fr
    rw [List.take_of_length_le (by simp [keysOf])] at fr
    rw [bx, qF, am]
    simp [pd, I.md, I.mf, I.mp]
    refine y6 ns ?_
    refine er xb (Nat.lt_of_le_of_lt len (by decide)) fun ep' => ?_
    rw [am]
    simp [o9, I.mf]
    exact q b _ ep' _ (g2.over hbn) hbn (an _ _ _) (ht.put hp fr)
theorem ni {ns : List Int} {L : Addr} {all : List V} {K : List Str} {σ0 : ag} {Q : V → ag → Prop} {X : String → ag → Prop} (hL : σ0 L = some (.list all)) (hK : Kp K) (hX : yI σ0 X) (q : ∀ b kvs' ep' σ', Grow σ0 σ' → σ0 b = Option.none → σ' b = some (.dict kvs' ep') → Inn K kvs' → Q (.ref b) σ') :
  ∀ (ds : List V) (kvs : List (Str × V)) (b : Addr) (eb : Nat) (m : aU) (σ' : ag), σ0 b = Option.none → Grow σ0 σ' → σ' b = some (.dict kvs eb) → Inn K kvs → (∀ d ∈ ds, Deed K d) → m "fresh" = some (.ref b) →
   dq (.name "deed") (fun σ'' => σ'' L = some (.list all)) (aV (ro "fresh" (hZ (sp_done ns) (ai (ae "fresh") (ai (ae "deed") ay)))) (xP ar)) ds m σ' (nM (xP (aq (fW ns) ar)) (fin Q) fun c _ σ' => X c σ') fun c _ σ' => X c σ' := by
 intro ds
 induction ds with
 | nil =>
  intro kvs b eb m σ' hb g hb' ht hd hm
  simp only [dq]
  refine ⟨g _ _ hL, ?_⟩
  rw [bx, qF, am]
  simp [fW, hm]
  exact q b kvs eb σ' g hb hb' ht
 | cons d r ih =>
  intro kvs b eb m σ' hb g hb' ht hd hm
  simp only [dq]
  refine ⟨g _ _ hL, _, rfl, ?_⟩
  rw [aC]
  simp [hm]
  refine ⟨K, b, kvs, eb, d, rfl, hb', hK, ht, hd d (.head _), fun c σ2 hc g2 => hX c σ2 hc (g.trans g2), fun b2 k2 ep2 σ2 g2 hb2 hb2' i2 => ?_⟩
  exact ih k2 b2 ep2 _ σ2 (g.none hb2) (g.trans g2) hb2' i2 (fun d' h' => hd d' (.tail _ h')) rfl
theorem rL (ns : List Int) : ∀ vs σ Q X, sp_changed ns vs σ Q X → vs.length = 2 ∧ gw ns (aG ["tree", "deeds"] vs aN) σ (fin Q) (fun c _ σ' => X c σ') := by
 rintro vs σ Q X ⟨K, a, L, kvs, ep, dl, rfl, ha, hL, hd, hK, ht, hp, hX, q⟩
 refine ⟨rfl, ?_⟩
 unfold gw
 rw [aC]
 simp [jI]
 refine hE ha fun b eb hb => ?_
 have g2 : Grow σ (a8 σ b (.dict kvs eb)) := Grow.refl.upd hb
 have hL2 : a8 σ b (.dict kvs eb) L = some (.list dl) := g2 _ _ hL
 show aV _ _ _ _ _ _
 rw [aC]
 simp [jH, bf hL2]
 exact ni hL hK hX q dl kvs b eb _ _ hb g2 (an _ _ _) ht hp rfl
theorem vp (ns : List Int) : ∀ vs σ Q X, spX_grow ns vs σ Q X → vs.length = 3 ∧ jY ns (aG ["self", "parent", "deeds"] vs aN) σ (fin Q) (fun c _ σ' => X c σ') := by
 rintro vs σ Q X ⟨K, b, t, mo, ads, ts, ps, n, L, dl, rfl, B, h0, h1, hL, hd, hp, hz, hX, q⟩
 refine ⟨rfl, ?_⟩
 obtain ⟨kvs, h⟩ : ∃ kvs, ts[n.toNat]? = some kvs := ⟨_, List.getElem?_eq_getElem (fM h0 h1)⟩
 unfold jY
 rw [aC]
 simp [mK, bh B]
 refine dX B h0 h1 ?_
 rw [aC]
 simp [mJ, bh B, e7 B]
 refine B.itemT h0 h fun a ep ha => ?_
 refine ⟨K, a, L, kvs, ep, dl, rfl, ha, hL, hd, B.un, B.tree _ (List.mem_of_getElem? h), hp, hX, fun d k' ep' σ' g hd hd' i' => ?_⟩
 try simp
 refine ⟨K, b, t, mo, ads, ts, ps, d, k', ep', [n], rfl, B.grow g, hd', i', hz, by simp, by simp, fun p hp => ?_, fun σ'' KK B2 => ?_⟩
 ·simp at hp; subst hp; exact ⟨h0, h1⟩
 ·exact q _ _ _ σ'' (g.keep KK) B2 (by simp)
theorem wU (ns : List Int) : ∀ vs σ Q, sp_tree ns vs σ Q → vs.length = 2 ∧ nw ns (aG ["self", "number"] vs aN) σ (fin Q) := by
 rintro vs σ Q ⟨K, b, t, mo, ads, ts, ps, n, kvs, rfl, B, h0, h, q⟩
 refine ⟨rfl, ?_⟩
 have h1 : n < ts.length := tU h0 (List.getElem?_eq_some_iff.mp h).1
 unfold nw
 rw [am]
 simp [oX, bh B]
 refine dX B h0 h1 ?_
 rw [am]
 simp [oW, e7 B]
 refine B.itemT h0 h fun a ep ha => ?_
 exact hE ha q
end Mine
end
noncomputable section
set_option tactic.hygienic false
set_option maxHeartbeats 1000000
namespace Mine
open PySem PySem.W PyProof.Rows PySem.Calls
@[simp] theorem yy {ns : List Int} {vs : List V} {σ : ag} {R : List V → (ag → Prop) → ag → Prop} : gW ns (.tup vs) σ R = R vs (fun _ => True) σ := rfl
theorem Anc.step {ps : List (List Int)} {n k p : Int} {l : List Int} (h : Anc ps n k) (hl : ps[k.toNat]? = some l) (hp : p ∈ l) : Anc ps n p := by
 induction h with
 | self n => exact .up hl hp (.self p)
 | up h1 h2 _ ih => exact .up h1 h2 (ih hl)
theorem ue {l : List Int} {i : Nat} {v : V} (h : (l.map V.int)[i]? = some v) : ∃ x, l[i]? = some x ∧ v = .int x := by
 rw [List.getElem?_map] at h
 obtain ⟨x, h1, rfl⟩ := Option.map_eq_some_iff.mp h
 exact ⟨x, h1, rfl⟩
theorem uz (ns : List Int) {K : List Str} {σ : ag} {b t mo : Addr} {ads : List Addr} {ts : List (List (Str × V))} {ps : List (List Int)} {Q : V → ag → Prop} {n : Int} {m : aU} (B : BookAt K σ b t mo ads ts ps) (h0 : 0 ≤ n) (h1 : n < ts.length) (hs : m "self" = some (.ref b)) (hm : m "number" = some (.int n))
  (q : ∀ xs, Eld ps n xs → gR (xs.map .int) σ Q) :
  aq (hV ns) (aq (hU ns) (aq (hO ns) ar)) m σ (fin Q) := by
 have few : ts.length ≤ 40 := B.lenP ▸ B.ord.few
 have ho := B.ord.lt
 rw [am]
 simp [hV, hm]
 intro f ef hf
 have xf := an σ f (.idict [(n, .bool true)] ef)
 have g0 : Grow σ (a8 σ f (.idict [(n, .bool true)] ef)) := Grow.refl.upd hf
 generalize (a8 σ f (.idict [(n, .bool true)] ef)) = σ₂ at xf g0 ⊢
 rw [am]
 simp [hU, hm, h0]
 refine ⟨by omega, ?_⟩
 refine a5 (fun i m σ' => ∃ kvs ep, σ' f = some (.idict kvs ep) ∧ Found ps n i kvs ∧ Grow σ σ' ∧ m "self" = some (.ref b) ∧ m "found" = some (.ref f)) (fun _ _ _ => False)
  (fun _ _ _ _ => trivial) _ ?_ ?_ (fun _ _ _ h => h.elim) _ _ ⟨_, _, xf, ⟨?_, ?_, ?_, ?_⟩, g0, hs, rfl⟩
 ·rintro i v m σ' Q' hv ⟨kvs, ep, hk, F, g, hs, hfd⟩ n1 n2 n3
  obtain ⟨hi, rfl⟩ := uE hv
  have hk0 : 0 ≤ n - i := by omega
  refine ⟨_, rfl, ?_⟩
  simp [am, hs, hfd]
  refine oB hk ?_
  simp [oE]
  have B' := B.grow g
  have hlt : (n - (i : Int)).toNat < ps.length := by rw [B.lenP]; omega
  split
  ·rename_i hin
   have hin' : (n - (i : Int)) ∈ kvs.map (·.1) := by simpa using hin
   simp [qx B']
   refine B'.itemM hk0 (List.getElem?_eq_getElem hlt) ?_
   have hl : ps[(n - (i : Int)).toNat]? = some ps[(n - (i : Int)).toNat] := List.getElem?_eq_getElem hlt
   generalize ps[(n - (i : Int)).toNat] = l at hl ⊢
   have hlo := ho _ _ hl
   try simp
   refine a5 (fun j m σ'' => ∃ kvs' ep', σ'' f = some (.idict kvs' ep') ∧ Grow σ σ'' ∧ m "self" = some (.ref b) ∧ m "found" = some (.ref f) ∧ (∀ x ∈ kvs'.map (·.1), Anc ps n x) ∧ (∀ x ∈ kvs.map (·.1), x ∈ kvs'.map (·.1)) ∧ (∀ p ∈ l.take j, p ∈ kvs'.map (·.1)) ∧ (∀ x ∈ kvs'.map (·.1), x ∈ kvs.map (·.1) ∨ x ∈ l) ∧ (kvs'.map (·.1)).Nodup)
    (fun _ _ _ => False) (fun _ _ _ _ => trivial) _ ?_ ?_ (fun _ _ _ h => h.elim) _ _ ⟨kvs, ep, hk, g, by simp [hs], by simp [hfd], F.anc, fun _ h => h, by simp, fun _ h => .inl h, F.nodup⟩
   ·rintro j v m σ'' Q'' hv ⟨kvs', ep', hk', g', hs', hf', c1, c2, c3, c4, c5⟩ n1' n2' n3'
    obtain ⟨p, hp, rfl⟩ := ue hv
    have hpl := List.mem_of_getElem? hp
    refine ⟨_, rfl, ?_⟩
    simp [am, hs', hf']
    have hlen : kvs'.length ≤ ts.length := by
     have := ew (n := ts.length) c5 fun x hx => by have := (c1 x hx).le ho h0; omega
     simpa using this
    refine lX hk' (by omega) fun ep'' => ?_
    refine n1' _ _ ⟨_, _, an _ _ _, g'.over hf, hs', hf', ?_, ?_, ?_, ?_, lK c5⟩
    ·intro x hx
     rcases (cK _ _ _ x).mp hx with rfl | hx
     ·exact (F.anc _ hin').step hl hpl
     ·exact c1 x hx
    ·intro x hx; exact (cK _ _ _ x).mpr (.inr (c2 x hx))
    ·intro x hx
     rw [List.take_add_one, hp] at hx
     rcases List.mem_append.mp hx with hx | hx
     ·exact (cK _ _ _ x).mpr (.inr (c3 x hx))
     ·simp at hx; subst hx; exact (cK _ _ _ _).mpr (.inl rfl)
    ·intro x hx
     rcases (cK _ _ _ x).mp hx with rfl | hx
     ·exact .inr hpl
     ·exact c4 x hx
   ·rintro m σ'' ⟨kvs', ep', hk', g', hs', hf', c1, c2, c3, c4, c5⟩
    rw [List.length_map, List.take_length] at c3
    try simp
    refine n1 _ _ ⟨kvs', ep', hk', ⟨c1, c2 _ F.self, ?_, c5⟩, g', hs', hf'⟩
    intro x hx hlt' l' hl' p hp
    by_cases hx2 : x = n - i
    ·subst hx2
     rw [hl] at hl'; cases hl'
     exact c3 p hp
    ·rcases c4 x hx with hx3 | hx3
     ·exact c2 p (F.up x hx3 (by omega) l' hl' p hp)
     ·have := hlo x hx3
      omega
  ·rename_i hin
   have hin' : (n - (i : Int)) ∉ kvs.map (·.1) := by simpa using hin
   refine n1 _ _ ⟨kvs, ep, hk, ⟨F.anc, F.self, ?_, F.nodup⟩, g, hs, hfd⟩
   intro x hx hlt' l' hl' p hp
   by_cases hx2 : x = n - i
   ·subst hx2; exact absurd hx hin'
   ·exact F.up x hx (by omega) l' hl' p hp
 ·rintro m σ' ⟨kvs, ep, hk, F, g, hs, hfd⟩
  rw [uD] at F
  rw [bi, am]
  have hall := F.all ho h0 (by omega)
  have hlen : kvs.length ≤ ts.length := by
   have := ew (n := ts.length) F.nodup fun x hx => by have := (F.anc x hx).le ho h0; omega
   simpa using this
  simp [hO, hfd]
  refine pJ hk (by exact Nat.lt_of_le_of_lt (Nat.le_trans hlen few) (by decide)) fun a ha => ?_
  refine q _ ⟨vO F.nodup, fun x => ?_⟩ a _ (g.upd ha) (g.none ha) (an _ _ _)
  rw [(gh _).mem_iff]
  exact hall x
 ·intro x hx; simp at hx; subst hx; exact .self _
 ·simp
 ·intro x hx hlt; simp at hx hlt; omega
 ·simp
theorem tf (ns : List Int) : ∀ vs σ Q, sp_elders ns vs σ Q → vs.length = 2 ∧ iF ns (aG ["self", "number"] vs aN) σ (fin Q) := by
 rintro vs σ Q ⟨K, b, t, mo, ads, ts, ps, n, rfl, B, h0, h1, q⟩
 refine ⟨rfl, ?_⟩
 unfold iF
 rw [am]
 simp [lu, bh B]
 refine dX B h0 h1 ?_
 exact uz ns B h0 h1 rfl rfl q
theorem lh (x : Int) : ∀ ys : List Int, fQ (.int x) (ys.map .int) = some (decide (x ∈ ys))
 | [] => rfl
 | y :: r => by
  have ih := lh x r
  simp only [List.map_cons, fQ, ih]
  by_cases h : x = y
  ·subst h; simp [veq0]
  ·simp [veq0, h, Ne.symm h]
theorem vP {σ : ag} {a : Addr} {x : Int} {ys : List Int} {Q : V → ag → Prop} (h : σ a = some (.list (ys.map .int))) (q : Q (.bool (decide (x ∈ ys))) σ) : tA (.int x) (.ref a) σ Q := ⟨_, _, h, lh x ys, q⟩
theorem uA {ns : List Int} {K : List Str} {σ : ag} {b t mo : Addr} {ads : List Addr} {ts : List (List (Str × V))} {ps : List (List Int)} {Q : V → ag → Prop} (B : BookAt K σ b t mo ads ts ps) {n : Int} (h0 : 0 ≤ n) (h1 : n < ts.length)
  (q : ∀ xs, Eld ps n xs → gR (xs.map .int) σ Q) : sp_elders ns [.ref b, .int n] σ Q := ⟨K, b, t, mo, ads, ts, ps, n, rfl, B, h0, h1, q⟩
theorem Eld.len {ps : List (List Int)} {n : Int} {xs : List Int} (e : Eld ps n xs) (o : Ord ps) (h0 : 0 ≤ n) (h1 : n < ps.length) : xs.length ≤ ps.length :=
 ew (by rw [List.nodup_iff_pairwise_ne]; exact e.lt.imp fun h => Int.ne_of_lt h) fun x hx => let h := ((e.mem x).mp hx).le o.lt h0; ⟨h.1, Int.lt_of_le_of_lt h.2 h1⟩
theorem y3 {ps : List (List Int)} (o : Ord ps) : ∀ (k : Nat), k < ps.length → Anc ps k 0 := by
 intro k
 induction k using Nat.strongRecOn with
 | _ k ih =>
  intro hk
  rcases Nat.eq_zero_or_pos k with rfl | hp
  ·exact .self _
  ·have e : ps[k]? = some ps[k] := List.getElem?_eq_getElem hk
   obtain ⟨p, hm⟩ := List.exists_mem_of_ne_nil _ (o.some k _ e hp)
   have hl := o.lt k _ e p hm
   obtain ⟨j, rfl⟩ := Int.eq_ofNat_of_zero_le hl.1
   have hj : j < k := Int.ofNat_lt.mp hl.2
   exact .up (n := (k : Int)) e hm (ih j hj (Nat.lt_trans hj hk))
theorem rI (ns : List Int) : ∀ vs σ Q, sp_nearest ns vs σ Q → vs.length = 3 ∧ gq ns (aG ["self", "one", "other"] vs aN) σ (fin Q) := by
 rintro vs σ Q ⟨K, b, t, mo, ads, ts, ps, n, k, rfl, B, h0, h1, k0, k1, q⟩
 refine ⟨rfl, ?_⟩
 have few := B.ord.few
 have n1 : n < ps.length := by rw [B.lenP]; exact h1
 have k1' : k < ps.length := by rw [B.lenP]; exact k1
 have z1 : Anc ps n 0 := by obtain ⟨j, rfl⟩ := Int.eq_ofNat_of_zero_le h0; exact y3 B.ord j (Int.ofNat_lt.mp n1)
 have z2 : Anc ps k 0 := by obtain ⟨j, rfl⟩ := Int.eq_ofNat_of_zero_le k0; exact y3 B.ord j (Int.ofNat_lt.mp k1')
 unfold gq
 rw [am]
 simp [jx, bh B]
 refine uA B h0 h1 fun xs1 E1 a1 σ1 g1 ha1 x1 => ?_
 have e1 := E1.mem
 have B1 := B.grow g1
 rw [am]
 simp [jw, bh B1]
 refine uA B1 k0 k1 fun xs2 E2 a2 σ2 g2 ha2 x2 => ?_
 have e2 := E2.mem
 have l2 := E2.len B.ord k0 k1'
 simp [bf x2]
 refine dy (fun σ' => σ' = σ2) (fun σ' e => by rw [e]; exact x2) (fun v => match v with | .int x => if x ∈ xs1 then some (.int x) else Option.none | _ => Option.none) _ _ _ _ (by simp; exact Nat.le_trans (Nat.le_trans l2 few) (by decide)) ?_ rfl ?_
 ·rintro v hv σ' Q1 Q2 rfl n1 n2
  obtain ⟨x, hx, rfl⟩ := List.mem_map.mp hv
  refine ⟨_, rfl, ?_⟩
  try simp
  refine vP (g2 _ _ x1) ?_
  try simp
  split
  ·rename_i h; exact n1 _ _ rfl (by simp [h])
  ·rename_i h; exact n2 _ rfl (by simp [h])
 ·rintro σ' rfl
  have hfm : ∀ xs : List Int, (xs.map V.int).filterMap (fun v => match v with | .int x => if x ∈ xs1 then some (V.int x) else Option.none | _ => Option.none) = (xs.filter fun x => decide (x ∈ xs1)).map V.int := by
   intro xs
   induction xs with
   | nil => rfl
   | cons y r ih =>
    simp only [List.map_cons, List.filterMap_cons]
    by_cases h : y ∈ xs1
    ·rw [List.filter_cons_of_pos (by simpa using h)]; simp [h, ih]
    ·rw [List.filter_cons_of_neg (by simpa using h)]; simp [h, ih]
  simp only [List.nil_append]
  rw [hfm]
  intro a3 ha3
  refine tQ (an _ _ _) ?_ fun M hM hmax => ?_
  ·have : (0 : Int) ∈ xs2.filter fun x => decide (x ∈ xs1) := List.mem_filter.mpr ⟨(e2 0).mpr z2, by simpa using (e1 0).mpr z1⟩
   exact List.length_pos_of_mem this
  ·obtain ⟨m1, m2⟩ := List.mem_filter.mp hM
   have m2' : M ∈ xs1 := by simpa using m2
   refine q M _ ((g1.trans g2).upd ha3) ⟨(e1 M).mp m2', (e2 M).mp m1, fun y y1 y2 => ?_⟩
   exact hmax y (List.mem_filter.mpr ⟨(e2 y).mpr y2, by simpa using (e1 y).mpr y1⟩)
end Mine
end
noncomputable section
set_option tactic.hygienic false
set_option maxHeartbeats 1000000
namespace Mine
open PySem PySem.W PyProof.Rows PySem.Calls
section
variable {σ : ag} {Q : V → ag → Prop} {K : List Str} {kvs ka kb kc : List (Str × V)} {x : Str}
@[simp] theorem xN {a b : Option Str} : br (eg a) (eg b) σ Q = Q (.bool (decide (a = b))) σ := by
 cases a <;> cases b <;> simp [eg]
@[simp] theorem Ak {a b : Option Str} : cc (eg a) (eg b) σ Q = Q (.bool (!decide (a = b))) σ := by
 cases a <;> cases b <;> simp [eg]
theorem mQ (h : x ∉ keysOf kvs) : cX kvs x = Option.none := by
 have h' : x ∉ kvs.map (·.1) := h
 have := bH kvs x
 rw [decide_eq_false h', Option.isSome_eq_false_iff, Option.isNone_iff_eq_none] at this
 exact this
theorem bL (h : x ∉ keysOf kvs) : gS kvs x = Option.none := by
 unfold gS; rw [mQ h]
theorem ul (h : In0 K kvs) (hx : x ∈ keysOf kvs) : ∃ y, cX kvs x = some (.str y) ∧ gS kvs x = some y := by
 obtain ⟨v, h1, h2⟩ := dc (show x ∈ kvs.map (·.1) from hx)
 obtain ⟨y, hy⟩ := h.val _ h2
 have hy : v = .str y := hy
 subst hy
 exact ⟨y, h1, by unfold gS; rw [h1]⟩
theorem Ar (h : In0 K kvs) : (cX kvs x).getD .none = eg (gS kvs x) := by
 by_cases hx : x ∈ keysOf kvs
 ·obtain ⟨y, h1, h2⟩ := ul h hx
  rw [h1, h2]; rfl
 ·rw [bL hx, mQ hx]; rfl
theorem cC {a : Addr} {ep : Nat} (h : σ a = some (.dict kvs ep)) (t : In0 K kvs) (q : Q (eg (gS kvs x)) σ) : bq (.ref a) σ ∧ cv [.ref a, .str x] σ Q :=
 ⟨by rw [cA h]; trivial, uj h (by rw [Ar t]; exact q)⟩
end
theorem aE {xs : List String} {m : aU} {x y : String} {v : V} (hy : y ∉ xs) (hx : x ∈ xs) : put m x v y = m y := fJ fun e => hy (e ▸ hx)
structure Lp (t : Addr) (o : AObj) (xs : List String) (m₀ : aU) (σ₀ : ag) (m : aU) (σ' : ag) : Prop where
 s : ∀ d, d ≠ t → σ' d = σ₀ d
 x : σ' t = some o
 m : ∀ y, y ∉ xs → m y = m₀ y
inductive LpD (t : Addr) (kvs : List (Str × V)) (xs : List String) (m₀ : aU) (σ₀ : ag) (m : aU) (σ' : ag) : Prop
 | mk (ep : Nat) (l : Lp t (.dict kvs ep) xs m₀ σ₀ m σ') : LpD t kvs xs m₀ σ₀ m σ'
theorem Lp.set {t : Addr} {o o' : AObj} {xs : List String} {m₀ m m' : aU} {σ₀ σ' : ag} (I : Lp t o xs m₀ σ₀ m σ') (h : ∀ y, y ∉ xs → m' y = m y) : Lp t o' xs m₀ σ₀ m' (a8 σ' t o') :=
 ⟨fun d hd => by rw [aI hd]; exact I.s d hd, an _ _ _, fun y hy => (h y hy).trans (I.m y hy)⟩
theorem Lp.at {t : Addr} {o o' : AObj} {xs : List String} {m₀ m m' : aU} {σ₀ σ' : ag} (I : Lp t o xs m₀ σ₀ m σ') (e : o = o') (h : ∀ y, y ∉ xs → m' y = m y) : Lp t o' xs m₀ σ₀ m' σ' :=
 ⟨I.s, e ▸ I.x, fun y hy => (h y hy).trans (I.m y hy)⟩
theorem Lp.grow {t : Addr} {o : AObj} {xs : List String} {m₀ m : aU} {σ σ₀ σ' : ag} (I : Lp t o xs m₀ σ₀ m σ') (ht : σ t = Option.none) (g : Grow σ σ₀) : Grow σ σ' := fun d o' e => by
 rw [I.s d (by rintro rfl; rw [ht] at e; cases e)]; exact g d o' e
structure Fnd (K : List Str) (fk : List (Str × V)) (S : List Str) : Prop where
 nodup : (keysOf fk).Nodup
 mem : ∀ x, x ∈ keysOf fk ↔ x ∈ S
 sub : ∀ x ∈ S, x ∈ K
theorem Fnd.len {K S : List Str} {fk : List (Str × V)} (h : Fnd K fk S) (hK : Kp K) : fk.length ≤ 18 := by
 have := dC h.nodup fun x hx => h.sub x ((h.mem x).mp hx)
 unfold keysOf at this
 rw [List.length_map] at this
 exact Nat.le_trans this hK.few
theorem Fnd.put {K S : List Str} {fk : List (Str × V)} {x : Str} {v : V} (h : Fnd K fk S) (hx : x ∈ K) : Fnd K (bb fk x v) (S ++ [x]) :=
 ⟨d8 h.nodup, fun z => (bW _ _ _ z).trans (by
   rw [List.mem_append, List.mem_singleton]
   exact ⟨fun e => e.elim .inr fun e => .inl ((h.mem z).mp e), fun e => e.elim (fun e => .inr ((h.mem z).mpr e)) .inl⟩), fun z hz => by
   rcases List.mem_append.mp hz with e | e
   ·exact h.sub z e
   ·rw [List.mem_singleton.mp e]; exact hx⟩
inductive FndI (K : List Str) (t : Addr) (xs : List String) (m₀ : aU) (σ₀ : ag) (S : List Str) (m : aU) (σ' : ag) : Prop
 | mk (fk : List (Str × V)) (ep : Nat) (l : Lp t (.dict fk ep) xs m₀ σ₀ m σ') (F : Fnd K fk S) : FndI K t xs m₀ σ₀ S m σ'
theorem rS {m₀ : aU} {σ₀ : ag} {K S : List Str} {a t : Addr} {fk kvs : List (Str × V)} {ef ep : Nat} {Q : Fl → aU → ag → Prop} (hK : Kp K) (ha : σ₀ a = some (.dict fk ef)) (ht : σ₀ t = some (.dict kvs ep)) (hat : a ≠ t) (hm : m₀ "found" = some (.ref a)) (hn : Fnd K fk S) (tk : In0 K kvs)
  (h : ∀ m σ', FndI K a ["path"] m₀ σ₀ (S ++ keysOf kvs) m σ' → Q .next m σ') :
  iq (.name "path") (fun σ => σ t = some (.dict kvs ep)) (aq (bA gA (az (.bool true)) (ae "found") (ae "path")) ar) (kvs.map fun q => .str q.1) m₀ σ₀ Q := by
 refine a5 (fun i m σ' => FndI K a ["path"] m₀ σ₀ (S ++ (keysOf kvs).take i) m σ') (fun _ _ _ => False)
  (fun i m σ' ⟨_, _, l, _⟩ => by rw [l.s t hat.symm]; exact ht) _ ?_ ?_ (fun _ _ _ h => h.elim) _ _ ⟨fk, ef, ⟨fun _ _ => rfl, ha, fun _ _ => rfl⟩, by rw [List.take_zero, List.append_nil]; exact hn⟩
 ·rintro i v m σ' Q' hv ⟨fk', ef', l, F⟩ n1 n2 n3
  obtain ⟨y, hy, rfl⟩ := gV hv
  refine ⟨_, rfl, ?_⟩
  simp [am, l.m "found" (by decide), hm]
  refine er l.x (Nat.lt_of_le_of_lt (F.len hK) (by decide)) fun ep2 => ?_
  refine n1 _ _ ⟨_, ep2, l.set fun y hy => aE hy (by decide), ?_⟩
  rw [List.take_add_one, hy, ← List.append_assoc]
  exact F.put (tk.sub _ (List.mem_of_getElem? hy))
 ·rintro m σ' I
  rw [List.take_of_length_le (by simp [keysOf])] at I
  exact h m σ' I
theorem yX (ns : List Int) : ∀ vs σ Q, sp_all_paths ns vs σ Q → vs.length = 3 ∧ dY ns (aG ["elder", "one", "other"] vs aN) σ (fin Q) := by
 rintro vs σ Q ⟨K, a, b, c, ka, kb, kc, e1, e2, e3, rfl, ⟨xa, xb, xc, ta, tb, tc, hu⟩, q⟩
 refine ⟨rfl, ?_⟩
 unfold dY
 rw [am]
 simp [gM]
 intro f ef hf
 have fa : a ≠ f := by rintro rfl; rw [xa] at hf; cases hf
 have fb : b ≠ f := by rintro rfl; rw [xb] at hf; cases hf
 have fc : c ≠ f := by rintro rfl; rw [xc] at hf; cases hf
 show aq _ _ _ _ _
 rw [am]
 simp [gL]
 intro l hl
 have fl : l ≠ f := by rintro rfl; simp [Mine.a8] at hl
 rw [bf (an _ _ _)]
 have hln : σ l = Option.none := by rw [aI fl] at hl; exact hl
 have al : a ≠ l := by rintro rfl; rw [xa] at hln; cases hln
 have bl : b ≠ l := by rintro rfl; rw [xb] at hln; cases hln
 have cl' : c ≠ l := by rintro rfl; rw [xc] at hln; cases hln
 generalize hσ : a8 (a8 σ f (.dict [] ef)) l (.list [.ref a, .ref b, .ref c]) = σ₁
 have s1 : ∀ d, d ≠ f → d ≠ l → σ₁ d = σ d := fun d h1 h2 => by rw [← hσ, aI h2, aI h1]
 have s2 : σ₁ f = some (.dict [] ef) := by rw [← hσ, aI fl.symm, an]
 have s3 : σ₁ l = some (.list [.ref a, .ref b, .ref c]) := by rw [← hσ, an]
 clear hσ
 refine a5 (fun i m σ' => FndI K f ["tree", "path"] _ σ₁ (([ka, kb, kc].take i).flatMap keysOf) m σ') (fun _ _ _ => False)
  (fun i m σ' ⟨_, _, L, _⟩ => by rw [L.s l fl]; exact s3) _ ?_ ?_ (fun _ _ _ h => h.elim) _ _ ⟨[], ef, ⟨fun _ _ => rfl, s2, fun _ _ => rfl⟩, ⟨List.nodup_nil, fun _ => Iff.rfl, fun _ h => (nomatch h)⟩⟩
 ·rintro i v m σ' Q' hv ⟨fk, ef', L, F⟩ n1 n2 n3
  refine ⟨_, rfl, ?_⟩
  have h6 : m "found" = some (.ref f) := (L.m _ (by decide)).trans rfl
  have go : ∀ d kvs ep, d ≠ f → d ≠ l → σ d = some (.dict kvs ep) → In0 K kvs → v = .ref d → [ka, kb, kc][i]? = some kvs → (aq (cU (.name "path") (gB ns (ae "tree")) (aq (bA gA (az (.bool true)) (ae "found") (ae "path")) ar)) ar) (put m "tree" v) σ' Q' := by
   rintro d kvs ep hdf hdl hd ht rfl hk
   have hd' : σ' d = some (.dict kvs ep) := by rw [L.s d hdf, s1 d hdf hdl]; exact hd
   simp [am, cH hd']
   refine rS hu L.x hd' hdf.symm h6 F ht fun m₂ σ₂ ⟨fk2, ef2, L2, F2⟩ => ?_
   try simp
   refine n1 _ _ ⟨fk2, ef2, ⟨fun c hc => by rw [L2.s c hc]; exact L.s c hc, L2.x, fun y hy => (L2.m y fun e => hy (List.mem_cons_of_mem _ e)).trans ((aE hy (by decide)).trans (L.m y hy))⟩, ?_⟩
   rw [List.take_add_one, hk, List.flatMap_append]
   simpa using F2
  match i, hv with
  | 0, hv => simp at hv; exact go a ka e1 fa al xa ta.i0 hv.symm rfl
  | 1, hv => simp at hv; exact go b kb e2 fb bl xb tb.i0 hv.symm rfl
  | 2, hv => simp at hv; exact go c kc e3 fc cl' xc tc.i0 hv.symm rfl
  | n + 3, hv => simp at hv
 ·rintro m σ' ⟨fk, ef', L, F⟩
  have hl := F.len hu
  have h6 : m "found" = some (.ref f) := (L.m _ (by decide)).trans rfl
  have h1 := L.x
  rw [bi, am]
  simp [gK, h6, h1]
  refine ⟨Nat.lt_of_le_of_lt hl (by decide), fun r hr => ?_⟩
  have e : lF (fk.map (·.1)) = di ka kb kc := nY F.nodup (cg _) fun z => (F.mem z).trans (by rw [ch]; simp [or_assoc])
  have hrf : r ≠ f := by rintro rfl; rw [h1] at hr; cases hr
  have hrn : σ r = Option.none := by
   by_cases hrl : r = l
   ·rw [hrl]; exact hln
   ·rw [← s1 r hrf hrl, ← L.s r hrf]; exact hr
  refine q r _ (fun d o hd => ?_) hrn (by rw [an, ← e])
  have d1 : d ≠ f := by rintro rfl; rw [hf] at hd; cases hd
  have d2 : d ≠ l := by rintro rfl; rw [hln] at hd; cases hd
  have d3 : d ≠ r := by rintro rfl; rw [hrn] at hd; cases hd
  rw [aI d3, L.s d d1, s1 d d1 d2]; exact hd
theorem dQ {ks : List Str} {i : Nat} {v : V} (h : (ks.map V.str)[i]? = some v) : ∃ y, ks[i]? = some y ∧ v = .str y := by
 rw [List.getElem?_map] at h
 obtain ⟨q, hq, rfl⟩ := Option.map_eq_some_iff.mp h
 exact ⟨q, hq, rfl⟩
section
variable {ns : List Int} {K : List Str} {σ σ' : ag} {Q : V → ag → Prop} {a b c : Addr} {ka kb kc : List (Str × V)} {e1 e2 e3 : Nat}
theorem D3.grow (d : D3 K a b c ka kb kc e1 e2 e3 σ) (g : Grow σ σ') : D3 K a b c ka kb kc e1 e2 e3 σ' := ⟨g _ _ d.xa, g _ _ d.xb, g _ _ d.xc, d.ta, d.tb, d.tc, d.un⟩
theorem D3.but (d : D3 K a b c ka kb kc e1 e2 e3 σ) {t : Addr} (ht : σ t = Option.none) {σ₂ : ag} (g : Grow σ σ₂) (h : ∀ z, z ≠ t → σ' z = σ₂ z) : D3 K a b c ka kb kc e1 e2 e3 σ' :=
 have ne : ∀ {z o}, σ z = some o → σ' z = some o := fun {z o} e => by rw [h z (by rintro rfl; rw [ht] at e; cases e)]; exact g _ _ e
 ⟨ne d.xa, ne d.xb, ne d.xc, d.ta, d.tb, d.tc, d.un⟩
theorem D3.key (d : D3 K a b c ka kb kc e1 e2 e3 σ) {x : Str} (h : x ∈ di ka kb kc) : x ∈ K := by
 unfold di at h
 rw [mT, ch, List.mem_append, List.mem_append] at h
 rcases h with (h | h) | h
 ·exact d.ta.i0.sub x h
 ·exact d.tb.i0.sub x h
 ·exact d.tc.i0.sub x h
theorem ja (a b c : List (Str × V)) : (di a b c).Nodup := rA (cg _)
theorem D3.len (d : D3 K a b c ka kb kc e1 e2 e3 σ) : (di ka kb kc).length ≤ 18 := Nat.le_trans (dC (ja _ _ _) fun x hx => d.key hx) d.un.few
theorem sX (d : D3 K a b c ka kb kc e1 e2 e3 σ) (q : gR ((di ka kb kc).map .str) σ Q) : sp_all_paths ns [.ref a, .ref b, .ref c] σ Q := ⟨K, a, b, c, ka, kb, kc, e1, e2, e3, rfl, d, q⟩
theorem yS (d : D3 K a b c ka kb kc e1 e2 e3 σ) (q : gR (kE ka kb kc) σ Q) : sp_marks ns [.ref a, .ref b, .ref c] σ Q := ⟨K, a, b, c, ka, kb, kc, e1, e2, e3, rfl, d, q⟩
theorem sW (d : D3 K a b c ka kb kc e1 e2 e3 σ) (q : gR ((kZ ka kb kc).map .str) σ Q) : sp_clashing ns [.ref a, .ref b, .ref c] σ Q := ⟨K, a, b, c, ka, kb, kc, e1, e2, e3, rfl, d, q⟩
theorem wB (d : D3 K a b c ka kb kc e1 e2 e3 σ) (q : ∀ f ep σ', Grow σ σ' → σ f = Option.none → σ' f = some (.dict (eP ka kb kc) ep) → Q (.ref f) σ') : sp_standing ns [.ref a, .ref b, .ref c] σ Q := ⟨K, a, b, c, ka, kb, kc, e1, e2, e3, rfl, d, q⟩
theorem wC (d : D3 K a b c ka kb kc e1 e2 e3 σ) (q : ∀ fs : List (List Str), fs.Perm (ct ka kb kc) → gR (fs.map cT) σ Q) : sp_clashes ns [.ref a, .ref b, .ref c] σ Q := ⟨K, a, b, c, ka, kb, kc, e1, e2, e3, rfl, d, q⟩
end
theorem jS {α : Type} {β : Type} (f : α → Option β) (l : List α) {i : Nat} {y : α} (h : l[i]? = some y) : (l.take (i + 1)).filterMap f = (l.take i).filterMap f ++ (f y).toList := by
 rw [List.take_add_one, h, List.filterMap_append]
 simp only [Option.toList_some, List.filterMap_cons, List.filterMap_nil]
 cases f y <;> rfl
theorem ur {α : Type} {β : Type} (f : α → Option β) (l : List α) (i : Nat) : ((l.take i).filterMap f).length ≤ l.length :=
 Nat.le_trans (List.length_filterMap_le f (l.take i)) (List.length_take_le' i l)
noncomputable def yt (ka kb kc : List (Str × V)) (x : Str) : Option V := (fN (gS ka x) (gS kb x) (gS kc x)).map fun u => V.tup [.str x, .str u]
theorem vj (ns : List Int) : ∀ vs σ Q, sp_marks ns vs σ Q → vs.length = 3 ∧ jV ns (aG ["elder", "one", "other"] vs aN) σ (fin Q) := by
 rintro vs σ Q ⟨K, a, b, c, ka, kb, kc, e1, e2, e3, rfl, d, q⟩
 refine ⟨rfl, ?_⟩
 unfold jV
 rw [am]
 simp [mG]
 intro t ht
 rw [am]
 have g0 : Grow σ (a8 σ t (.list [])) := Grow.refl.upd ht
 have xt := an σ t (.list [])
 generalize (a8 σ t (.list [])) = σ₁ at g0 xt ⊢
 simp [mF]
 refine sX (d.grow g0) fun l σ₂ g2 hl xl => ?_
 rw [bf xl]
 have lt : l ≠ t := by rintro rfl; rw [xt] at hl; cases hl
 have g02 := g0.trans g2
 have hk := d.len
 refine a5 (fun i m σ' => Lp t (.list (((di ka kb kc).take i).filterMap (yt ka kb kc))) ["path", "was", "mine", "theirs"] _ σ₂ m σ') (fun _ _ _ => False)
  (fun i m σ' h => by rw [h.s l lt]; exact xl) _ ?_ ?_ (fun _ _ _ h => h.elim) _ _ ⟨fun _ _ => rfl, g2 _ _ xt, fun _ _ => rfl⟩
 ·intro i v m σ' Q' hv I n1 n2 n3
  obtain ⟨y, hy, rfl⟩ := dQ hv
  refine ⟨_, rfl, ?_⟩
  have dd := d.but ht g02 I.s
  have hll := ur (yt ka kb kc) (di ka kb kc) i
  have h2 := I.x
  have h3 : m "told" = some (.ref t) := (I.m _ (by decide)).trans rfl
  have h4 : m "elder" = some (.ref a) := (I.m _ (by decide)).trans rfl
  have h5 : m "one" = some (.ref b) := (I.m _ (by decide)).trans rfl
  have h6 : m "other" = some (.ref c) := (I.m _ (by decide)).trans rfl
  have hm : ∀ (u w z x : V) s, s ∉ ["path", "was", "mine", "theirs"] → put (put (put (put m "path" u) "was" w) "mine" z) "theirs" x s = m s := fun u w z x s hs => by
   rw [aE hs (by decide), aE hs (by decide), aE hs (by decide), aE hs (by decide)]
  simp only [am, mX, kR, kQ, ij, jQ]
  simp [h4]
  refine cC dd.xa d.ta.i0 ?_
  simp [am, h5]
  refine cC dd.xb d.tb.i0 ?_
  simp [am, h6]
  refine cC dd.xc d.tc.i0 ?_
  simp [am, h3, bX h2]
  have skip : fN (gS ka y) (gS kb y) (gS kc y) = Option.none → Q' .next (put (put (put (put m "path" (.str y)) "was" (eg (gS ka y))) "mine" (eg (gS kb y))) "theirs" (eg (gS kc y))) σ' := fun hu =>
   n1 _ _ (I.at (by rw [jS _ _ hy, yt, hu]; simp) (hm _ _ _ _))
  have put1 : ∀ (u : Str), fN (gS ka y) (gS kb y) (gS kc y) = some u → bg [.ref t, .tup [.str y, .str u]] σ' fun x σ'' => Q' .next (put (put (put (put m "path" (.str y)) "was" (eg (gS ka y))) "mine" (eg (gS kb y))) "theirs" (eg (gS kc y))) σ'' := fun u hu =>
   cm h2 (Nat.lt_of_le_of_lt (Nat.le_trans hll hk) (by decide)) (n1 _ _ (by
    have := I.set (o' := .list (((di ka kb kc).take i).filterMap (yt ka kb kc) ++ [.tup [.str y, .str u]])) (hm (.str y) (eg (gS ka y)) (eg (gS kb y)) (eg (gS kc y)))
    rw [jS _ _ hy, show (yt ka kb kc y).toList = [V.tup [.str y, .str u]] by rw [yt, hu]; rfl]
    exact this))
  generalize gS ka y = w at put1 skip ⊢
  generalize gS kb y = mi at put1 skip ⊢
  generalize gS kc y = th at put1 skip ⊢
  unfold fN at put1 skip
  split
  ·rename_i k1
   rw [if_pos k1] at put1 skip
   split
   ·rename_i k2
    rw [if_pos k2] at skip
    exact skip rfl
   ·rename_i k2
    rw [if_neg k2] at put1
    exact put1 _ rfl
  ·rename_i k1
   rw [if_neg k1] at put1
   split
   ·rename_i k2
    rw [if_pos k2] at put1
    exact put1 _ rfl
   ·rename_i k2
    rw [if_neg k2] at put1
    split
    ·rename_i k3
     rw [if_pos k3] at put1
     exact put1 _ rfl
    ·rename_i k3
     rw [if_neg k3] at put1
     exact put1 _ rfl
 ·intro m σ' I
  rw [List.length_map, List.take_length] at I
  have h3 : m "told" = some (.ref t) := (I.m _ (by decide)).trans rfl
  rw [bi, am]
  simp [mE, h3]
  exact q t σ' (I.grow ht g02) ht I.x
end Mine
end
noncomputable section
set_option tactic.hygienic false
set_option maxHeartbeats 1000000
namespace Mine
open PySem PySem.W PyProof.Rows PySem.Calls
theorem oU (x : Str) : ∀ ys : List Str, fQ (.str x) (ys.map .str) = some (decide (x ∈ ys))
 | [] => rfl
 | y :: r => by
  have ih := oU x r
  simp only [List.map_cons, fQ, ih]
  by_cases h : x = y
  ·subst h; simp [veq0]
  ·simp [veq0, h, Ne.symm h]
theorem qW {w m t : Option Str} : fN w m t = some (Str.ofString "clash") ↔ dL w m t = true := by
 have n1 : Str.ofString "alike" ≠ Str.ofString "clash" := by decide
 have n2 : Str.ofString "one" ≠ Str.ofString "clash" := by decide
 have n3 : Str.ofString "other" ≠ Str.ofString "clash" := by decide
 unfold fN dL
 by_cases h1 : m = t
 ·subst h1
  by_cases h2 : m = w
  ·subst h2; simp
  ·simp [h2, n1]
 ·by_cases h3 : t = w
  ·subst h3; simp [h1, n2]
  ·by_cases h2 : m = w
   ·subst h2; simp [h1, h3, n3]
   ·simp [h1, h2, h3]
theorem gI {α β : Type} (f : α → β) (p : α → Bool) : ∀ l : List α, (l.filter p).map f = l.filterMap fun x => if p x then some (f x) else Option.none
 | [] => rfl
 | x :: l => by
  have ih := gI f p l
  cases h : p x
  ·rw [List.filter_cons_of_neg (by simp [h]), ih, List.filterMap_cons_none (by simp [h])]
  ·rw [List.filter_cons_of_pos h, List.map_cons, ih, List.filterMap_cons_some (b := f x) (by simp [h])]
noncomputable def Ay : V → Option V
 | .tup [.str x, .str u] => if u = Str.ofString "clash" then some (.str x) else Option.none
 | _ => Option.none
theorem jU {x u : Str} : Ay (.tup [.str x, .str u]) = if u = Str.ofString "clash" then some (.str x) else Option.none := rfl
theorem sy (a b c : List (Str × V)) : (kE a b c).filterMap Ay = (kZ a b c).map V.str := by
 unfold kE kZ
 rw [List.filterMap_filterMap, gI]
 refine congrArg (List.filterMap · _) (funext fun x => ?_)
 by_cases h : dL (gS a x) (gS b x) (gS c x) = true
 ·rw [qW.mpr h, h]
  simp [jU]
 ·cases e : fN (gS a x) (gS b x) (gS c x) with
  | none => simp [h]
  | some u =>
   have hu : u ≠ Str.ofString "clash" := fun hu => h (qW.mp (by rw [e, hu]))
   simp [jU, hu, h]
theorem pN (ns : List Int) : ∀ vs σ Q, sp_clashing ns vs σ Q → vs.length = 3 ∧ fe ns (aG ["elder", "one", "other"] vs aN) σ (fin Q) := by
 rintro vs σ Q ⟨K, a, b, c, ka, kb, kc, e1, e2, e3, rfl, d, q⟩
 refine ⟨rfl, ?_⟩
 simp [fe, iG, am]
 refine yS d fun l σ₁ g1 hl xl => ?_
 rw [bf xl]
 have ml : (kE ka kb kc).length ≤ 18 := Nat.le_trans (List.length_filterMap_le _ _) d.len
 refine dy (fun s => s = σ₁) (fun s hs => by rw [hs]; exact xl) Ay _ _ _ _ (by simp; exact Nat.le_trans ml (by decide)) ?_ rfl ?_
 ·rintro v hv s Q₁ Q₂ rfl n1 n2
  obtain ⟨x, _, hx⟩ := List.mem_filterMap.mp hv
  obtain ⟨u, _, rfl⟩ := Option.map_eq_some_iff.mp hx
  refine ⟨_, rfl, ?_⟩
  by_cases h : u = Str.ofString "clash"
  ·simp [h]
   exact n1 _ _ rfl (by simp [jU, h])
  ·simp [h]
   exact n2 _ rfl (by simp [jU, h])
 ·rintro s rfl r hr
  rw [List.nil_append, sy]
  exact q r _ (g1.upd hr) (g1.none hr) (an _ _ _)
theorem pD {kvs : List (Str × V)} {x : Str} {v : V} (h : x ∉ kvs.map (·.1)) : bb kvs x v = kvs ++ [(x, v)] := by
 unfold bb
 rw [if_neg]
 intro e
 obtain ⟨q, h1, h2⟩ := List.any_eq_true.mp e
 exact h (List.mem_map.mpr ⟨q, h1, by simpa using h2⟩)
noncomputable def vf (a b c : List (Str × V)) (x : Str) : Option (Str × V) := (bI (gS a x) (gS b x) (gS c x)).map fun y => (x, .str y)
theorem wS {a b c : List (Str × V)} {ks : List Str} {x : Str} (h : x ∈ (ks.filterMap (vf a b c)).map (·.1)) : x ∈ ks := by
 obtain ⟨q, hq, rfl⟩ := List.mem_map.mp h
 obtain ⟨y, hy, e⟩ := List.mem_filterMap.mp hq
 obtain ⟨z, _, rfl⟩ := Option.map_eq_some_iff.mp e
 exact hy
theorem wR {a b c : List (Str × V)} {i : Nat} {y : Str} (hy : (di a b c)[i]? = some y) : y ∉ (((di a b c).take i).filterMap (vf a b c)).map (·.1) := fun e => by
 obtain ⟨j, hj⟩ := List.getElem?_of_mem (wS e)
 rw [List.getElem?_take] at hj
 split at hj
 ·rename_i hji
  exact absurd ((List.getElem?_inj (List.getElem?_eq_some_iff.mp hj).1 (ja a b c)).mp (hj.trans hy.symm)) (Nat.ne_of_lt hji)
 ·cases hj
theorem pL (ns : List Int) : ∀ vs σ Q, sp_standing ns vs σ Q → vs.length = 3 ∧ e8 ns (aG ["elder", "one", "other"] vs aN) σ (fin Q) := by
 rintro vs σ Q ⟨K, a, b, c, ka, kb, kc, e1, e2, e3, rfl, d, q⟩
 refine ⟨rfl, ?_⟩
 unfold e8
 rw [am]
 simp [iA]
 refine sW d fun w σ₁ g1 hw xw => ?_
 rw [am]
 simp [iz]
 intro f ef hf
 have hfn := g1.none hf
 have g2 : Grow σ₁ (a8 σ₁ f (.dict [] ef)) := Grow.refl.upd hf
 have xf := an σ₁ f (.dict [] ef)
 generalize (a8 σ₁ f (.dict [] ef)) = σ₂ at g2 xf ⊢
 show aq _ _ _ _ _
 rw [am]
 simp [iy]
 refine sX ((d.grow g1).grow g2) fun l σ₃ g3 hl xl => ?_
 rw [bf xl]
 have hlf : l ≠ f := by rintro rfl; rw [xf] at hl; cases hl
 have hwf : w ≠ f := by rintro rfl; rw [xw] at hf; cases hf
 have xw3 := g3 _ _ (g2 _ _ xw)
 have g13 := g1.trans (g2.trans g3)
 have hk := d.len
 refine a5 (fun i m σ' => LpD f (((di ka kb kc).take i).filterMap (vf ka kb kc)) ["path", "text"] _ σ₃ m σ') (fun _ _ _ => False)
  (fun i m σ' ⟨_, h⟩ => by rw [h.s l hlf]; exact xl) _ ?_ ?_ (fun _ _ _ h => h.elim) _ _ ⟨ef, fun _ _ => rfl, g3 _ _ xf, fun _ _ => rfl⟩
 ·rintro i v m σ' Q' hv ⟨ep, I⟩ n1 n2 n3
  obtain ⟨y, hy, rfl⟩ := dQ hv
  refine ⟨_, rfl, ?_⟩
  have dd := d.but hfn g13 I.s
  have yw : σ' w = some (.list ((kZ ka kb kc).map .str)) := by rw [I.s w hwf]; exact xw3
  have h2 := I.x
  have mw : m "away" = some (.ref w) := (I.m _ (by decide)).trans rfl
  have mf : m "found" = some (.ref f) := (I.m _ (by decide)).trans rfl
  have me : m "elder" = some (.ref a) := (I.m _ (by decide)).trans rfl
  have mo : m "one" = some (.ref b) := (I.m _ (by decide)).trans rfl
  have mt : m "other" = some (.ref c) := (I.m _ (by decide)).trans rfl
  have hll := ur (vf ka kb kc) (di ka kb kc) i
  have hcl : y ∈ kZ ka kb kc ↔ dL (gS ka y) (gS kb y) (gS kc y) = true := by
   unfold kZ; rw [List.mem_filter]; exact ⟨fun h => h.2, fun h => ⟨List.mem_of_getElem? hy, h⟩⟩
  have last : ∀ (m' : aU) (o : Option Str), m' "text" = some (eg o) → m' "path" = some (.str y) → (∀ s, s ∉ ["path", "text"] → m' s = m s) → o = (if gS kb y = gS ka y then gS kc y else gS kb y) →
    (aq (dP (lI (aJ (ax ic (ae "path") (ae "away"))) (lI (aJ (ax c9 (ae "text") (az .none))) tT)) (aq (bA gA (ae "text") (ae "found") (ae "path")) ar) ar) ar) m' σ' Q' := by
   intro m' o z1 z2 z3 ho
   have skip : bI (gS ka y) (gS kb y) (gS kc y) = Option.none → Q' .next m' σ' := fun e =>
    n1 _ _ ⟨ep, I.at (by rw [jS _ _ hy, vf, e]; simp) z3⟩
   rw [am]
   simp [z1, z2, z3 "away" (by decide), z3 "found" (by decide), mw, mf]
   refine ⟨_, _, yw, oU y _, ?_⟩
   by_cases hc : dL (gS ka y) (gS kb y) (gS kc y) = true
   ·simp [hcl.mpr hc]
    exact skip (by unfold bI; rw [if_pos hc])
   ·have hc' : y ∉ kZ ka kb kc := fun e => hc (hcl.mp e)
    have hs : bI (gS ka y) (gS kb y) (gS kc y) = o := by unfold bI; rw [if_neg hc]; exact ho.symm
    cases o with
    | none =>
     simp [hc', eg]
     exact skip hs
    | some t =>
     simp [hc', eg, am, z1, z2, z3 "found" (by decide), mf]
     refine er h2 (Nat.lt_of_le_of_lt (Nat.le_trans hll hk) (by decide)) fun ep2 => ?_
     rw [pD (wR hy)]
     refine n1 _ _ ⟨ep2, ?_⟩
     rw [jS _ _ hy, show (vf ka kb kc y).toList = [(y, V.str t)] by rw [vf, hs]; rfl]
     exact I.set z3
  rw [am]
  simp only [mX, kR, kQ, ij, jQ]
  simp [mo]
  refine cC dd.xb d.tb.i0 ?_
  rw [am]
  simp [mo, me]
  refine cC dd.xb d.tb.i0 ?_
  try simp
  refine cC dd.xa d.ta.i0 ?_
  by_cases hq : gS kb y = gS ka y
  ·rw [xN, decide_eq_true hq]
   simp only [dh, if_true]
   rw [am]
   simp [mt]
   refine cC dd.xc d.tc.i0 ?_
   exact last _ (gS kc y) rfl rfl (fun s hs => by rw [aE hs (by decide), aE hs (by decide), aE hs (by decide)]) (by rw [if_pos hq])
  ·simp [hq]
   exact last _ (gS kb y) rfl rfl (fun s hs => by rw [aE hs (by decide), aE hs (by decide)]) (by rw [if_neg hq])
 ·rintro m σ' ⟨ep, I⟩
  rw [List.length_map, List.take_length] at I
  have mf : m "found" = some (.ref f) := (I.m _ (by decide)).trans rfl
  rw [bi, am]
  simp [ix, mf]
  exact q f ep σ' (I.grow hfn g13) hfn I.x
end Mine
end
noncomputable section
set_option tactic.hygienic false
set_option maxHeartbeats 1000000
namespace Mine
open PySem PySem.W PyProof.Rows PySem.Calls
theorem rT {x : Str} (n : Nat) : (((Txt.split x (Str.ofString "/")).take n).map (·.length)).sum + ((Txt.split x (Str.ofString "/")).take n).length ≤ x.length + 1 := by
 have h := PyProof.Rows.split_weight x (Str.ofString "/") (by rw [ee]; decide)
 have key : ∀ (l : List Str) (n : Nat), ((l.take n).map (·.length)).sum + (l.take n).length ≤ (l.map (·.length)).sum + l.length := by
  intro l
  induction l with
  | nil => intro n; simp
  | cons y r ih => intro n; cases n with
   | zero => simp
   | succ n => have := ih n; simp at this ⊢; omega
 exact Nat.le_trans (key _ n) h
theorem vn (ns : List Int) : ∀ vs σ Q, sp_above ns vs σ Q → vs.length = 1 ∧ jX ns (aG ["path"] vs aN) σ (fin Q) := by
 rintro vs σ Q ⟨x, rfl, hx, q⟩
 refine ⟨rfl, ?_⟩
 have hsz := PyProof.Rows.split_le x (Str.ofString "/")
 simp [jX, mI, mH, am, ee]
 refine ⟨by exact Nat.le_trans hx (by decide), fun a ha => ?_⟩
 have hp : ∀ σ', Grow (a8 σ a (.list ((Txt.split x (Str.ofString "/")).map .str))) σ' → σ' a = some (.list ((Txt.split x (Str.ofString "/")).map .str)) := fun σ' g => g _ _ (an _ _ _)
 simp [dg (an σ a _)]
 refine ⟨by omega, ?_⟩
 refine gj (Grow (a8 σ a (.list ((Txt.split x (Str.ofString "/")).map .str)))) (fun _ _ => trivial) _ ((bB x).map .str) [] _ _ (by simp [bB, cY]) (by simp [cY]; exact dK fun hg => lN [(x.length), ((Txt.split x (Str.ofString "/")).length)] 0x14200002508c22084802852c10481 rfl hx hsz hg) ?_ Grow.refl ?_
 ·intro i v y hv hy σ' Q' g n
  obtain ⟨hi, rfl⟩ := dB hv
  refine ⟨_, rfl, ?_⟩
  simp
  refine oM (hp _ g) fun b hb => ?_
  rw [oK _ (by exact Int.natCast_nonneg _), show (1 + (i : Int)).toNat = i + 1 by exact Nat.add_comm _ _, ← List.map_take]
  have hsum := rT (x := x) (i + 1)
  refine ma (ys := (Txt.split x (Str.ofString "/")).take (i + 1)) (an _ _ _) (by rw [ee]; omega) ?_
  have : y = .str (Str.join (Str.ofString "/") ((Txt.split x (Str.ofString "/")).take (i + 1))) := by
   simp [bB, hi] at hy
   exact hy.symm
  rw [← this]
  exact n _ (g.upd hb)
 ·intro σ' g b hb
  simp
  refine q b _ ?_ ?_ (an _ _ _)
  ·exact (Grow.upd Grow.refl ha |>.trans g).upd hb
  ·exact (Grow.upd Grow.refl ha |>.trans g).none hb
theorem sY {ns : List Int} {σ : ag} {Q : V → ag → Prop} {x : Str} (hx : x.length ≤ 200) (q : gR ((bB x).map .str) σ Q) : sp_above ns [.str x] σ Q := ⟨x, rfl, Nat.le_trans hx (by decide), q⟩
theorem fC (x : Str) : Txt.split x (Str.ofString "/") ≠ [] := by
 have := PyProof.Rows.split_pos x (Str.ofString "/")
 intro e; rw [e] at this; simp at this
theorem eo (x : Str) : ∀ y ∈ Txt.split x (Str.ofString "/"), Fr y := by
 intro y hy
 rw [lW] at hy
 exact StrLaws.split_free _ 47 y hy
theorem mS (y : Str) (i : Nat) : (Txt.split y (Str.ofString "/")).take (i + 1) ≠ [] := by
 intro e
 rcases List.take_eq_nil_iff.mp e with h | h
 ·cases h
 ·exact fC y h
theorem jc (x y : Str) : x ∈ bB y ↔ Txt.startswith y (x ++ Str.ofString "/") = true := by
 have e := nX (eo x) (eo y) (fC x) (fC y)
 rw [StrLaws.join_split, StrLaws.join_split] at e
 rw [e, decide_eq_true_eq]
 have hx0 : 0 < (Txt.split x (Str.ofString "/")).length := List.length_pos_iff.mpr (fC x)
 simp only [bB, List.mem_map, List.mem_range]
 constructor
 ·rintro ⟨i, hi, e⟩
  have h2 := ov (xs := (Txt.split y (Str.ofString "/")).take (i + 1)) (fun z hz => eo y z (List.mem_of_mem_take hz)) (eo x) (mS y i) (fC x) (by rw [e, StrLaws.join_split])
  rw [← h2, List.length_take, Nat.min_eq_left (by exact dK fun hg => Or.elim (pC ((Txt.split y (Str.ofString "/")).length) (1)) (fun hs0 => lN [i, ((Txt.split y (Str.ofString "/")).length - 1), ((Txt.split y (Str.ofString "/")).length)] 0x628c241986129061 rfl hi hg (Nat.le_of_eq hs0)) (fun hs0 => lN [i, ((Txt.split y (Str.ofString "/")).length - 1)] 0x4a129061 rfl hi (Nat.le_of_eq hs0)))]
  exact ⟨by exact oj fun hg => Or.elim (pC ((Txt.split y (Str.ofString "/")).length) (1)) (fun hs0 => lN [i, ((Txt.split y (Str.ofString "/")).length - 1), ((Txt.split y (Str.ofString "/")).length)] 0x3146120cc129061 rfl hi hg (Nat.le_of_eq hs0)) (fun hs0 => lN [i, ((Txt.split y (Str.ofString "/")).length - 1)] 0x4a129061 rfl hi (Nat.le_of_eq hs0)), rfl⟩
 ·rintro ⟨h1, h2⟩
  refine ⟨(Txt.split x (Str.ofString "/")).length - 1, by exact oj fun hg => lN [((Txt.split x (Str.ofString "/")).length), ((Txt.split y (Str.ofString "/")).length), ((Txt.split x (Str.ofString "/")).length - 1), ((Txt.split y (Str.ofString "/")).length - 1)] 0x18e138ca12186129061 rfl h1 (dj (dK fun hg => lN [((Txt.split x (Str.ofString "/")).length)] 0x42120c2400461 rfl hx0 hg)) (dE ((Txt.split y (Str.ofString "/")).length) (1)) hg, ?_⟩
  rw [Nat.sub_add_cancel hx0, h2, StrLaws.join_split]
theorem jt (y : Str) : (bB y).Nodup := by
 unfold bB List.Nodup
 rw [List.pairwise_map]
 refine List.pairwise_lt_range.imp_of_mem fun {i j} hi hj hij e => ?_
 rw [List.mem_range] at hi hj
 have h2 := ov (fun z hz => eo y z (List.mem_of_mem_take hz)) (fun z hz => eo y z (List.mem_of_mem_take hz)) (mS y i) (mS y j) e
 have h3 := congrArg List.length h2
 rw [List.length_take, List.length_take] at h3
 exact False.elim (Or.elim (pC ((Txt.split y (Str.ofString "/")).length) (1)) (fun hs0 => Or.elim (xx (j + 1) ((Txt.split y (Str.ofString "/")).length)) (fun hs1 => lN [i, j, (min (i + 1) (Txt.split y (Str.ofString "/")).length), (min (j + 1) (Txt.split y (Str.ofString "/")).length)] 0x1ca309066098e129061 rfl hij (Nat.le_of_eq (Eq.symm h3)) (Nat.min_le_left (i + 1) ((Txt.split y (Str.ofString "/")).length)) hs1) (fun hs1 => lN [i, ((Txt.split y (Str.ofString "/")).length - 1), j, (min (i + 1) (Txt.split y (Str.ofString "/")).length), (min (j + 1) (Txt.split y (Str.ofString "/")).length), ((Txt.split y (Str.ofString "/")).length)] 0x1090a4a30906709d013106129861 rfl hj hij (Nat.le_of_eq (Eq.symm h3)) (Nat.min_le_left (i + 1) ((Txt.split y (Str.ofString "/")).length)) (Nat.le_of_eq hs0) hs1)) (fun hs0 => lN [i, ((Txt.split y (Str.ofString "/")).length - 1), j] 0x4a13106129861 rfl hj hij (Nat.le_of_eq hs0)))
theorem wD : cl (Str.ofString "/") = [47] := by rw [lW]
theorem gn {u x : Str} (h : u ∈ bB x) : cl u ++ [47] <+: cl x := by
 have := (eQ _ _).mp ((jc u x).mp h)
 rwa [eD, wD] at this
theorem oo {u v x : Str} (hu : u ∈ bB x) (hv : v ∈ bB x) (h : (cl u).length < (cl v).length) : Txt.startswith v (u ++ Str.ofString "/") = true := by
 rw [eQ, eD, wD]
 exact List.prefix_of_prefix_length_le (gn hu) ((List.prefix_append _ _).trans (gn hv)) (by rw [List.length_append]; exact h)
theorem fR {K : List Str} {kvs : List (Str × V)} (t : Inn K kvs) {u v x : Str} (hu : u ∈ keysOf kvs) (hv : v ∈ keysOf kvs) (au : u ∈ bB x) (av : v ∈ bB x) : u = v := by
 rcases Nat.lt_trichotomy (cl u).length (cl v).length with h | h | h
 ·have := oo au av h
  rw [t.fre v hv u hu] at this; cases this
 ·exact qp ((List.prefix_of_prefix_length_le ((List.prefix_append _ _).trans (gn au)) ((List.prefix_append _ _).trans (gn av)) (Nat.le_of_eq h)).eq_of_length h)
 ·have := oo av au h
  rw [t.fre u hu v hv] at this; cases this
theorem pI {w m t : Option Str} {y : Str} (h : bI w m t = some y) : m = some y ∨ t = some y := by
 unfold bI at h
 split at h
 ·cases h
 ·split at h
  ·exact .inr h
  ·exact .inl h
theorem gE {a b c : List (Str × V)} {x : Str} : x ∈ keysOf (eP a b c) ↔ x ∈ di a b c ∧ ∃ y, bI (gS a x) (gS b x) (gS c x) = some y := by
 constructor
 ·intro h
  obtain ⟨q, hq, rfl⟩ := List.mem_map.mp h
  obtain ⟨z, hz, e⟩ := List.mem_filterMap.mp hq
  obtain ⟨y, e', rfl⟩ := Option.map_eq_some_iff.mp e
  exact ⟨hz, y, e'⟩
 ·rintro ⟨h, y, e⟩
  exact List.mem_map.mpr ⟨(x, .str y), List.mem_filterMap.mpr ⟨x, h, by rw [e]; rfl⟩, rfl⟩
theorem vd {a b c : List (Str × V)} {x : Str} (h : x ∈ keysOf (eP a b c)) : x ∈ keysOf b ∨ x ∈ keysOf c := by
 obtain ⟨_, y, e⟩ := gE.mp h
 rcases pI e with e | e
 ·by_cases hx : x ∈ keysOf b
  ·exact .inl hx
  ·rw [bL hx] at e; cases e
 ·by_cases hx : x ∈ keysOf c
  ·exact .inr hx
  ·rw [bL hx] at e; cases e
theorem ry {K : List Str} {kb kc : List (Str × V)} (tb : Inn K kb) (tc : Inn K kc) {x : Str} : ∀ (l : List Str), l.Nodup → (∀ u ∈ l, u ∈ bB x) → (∀ u ∈ l, u ∈ keysOf kb ∨ u ∈ keysOf kc) → l.length ≤ 2
 | [], _, _, _ => by decide
 | [_], _, _, _ => Nat.le_succ _
 | [_, _], _, _, _ => Nat.le_refl _
 | u :: v :: w :: r, hn, ha, hk => by
  have n1 := List.nodup_cons.mp hn
  have n2 := List.nodup_cons.mp n1.2
  have uv : u ≠ v := fun e => n1.1 (e ▸ .head _)
  have uw : u ≠ w := fun e => n1.1 (e ▸ .tail _ (.head _))
  have vw : v ≠ w := fun e => n2.1 (e ▸ .head _)
  have au := ha u (.head _)
  have av := ha v (.tail _ (.head _))
  have aw := ha w (.tail _ (.tail _ (.head _)))
  rcases hk u (.head _) with h1 | h1 <;> rcases hk v (.tail _ (.head _)) with h2 | h2 <;> rcases hk w (.tail _ (.tail _ (.head _))) with h3 | h3
  ·exact absurd (fR tb h1 h2 au av) uv
  ·exact absurd (fR tb h1 h2 au av) uv
  ·exact absurd (fR tb h1 h3 au aw) uw
  ·exact absurd (fR tc h2 h3 av aw) vw
  ·exact absurd (fR tb h2 h3 av aw) vw
  ·exact absurd (fR tc h1 h3 au aw) uw
  ·exact absurd (fR tc h1 h2 au av) uv
  ·exact absurd (fR tc h1 h2 au av) uv
noncomputable def iW (ks : List Str) (x : Str) (us : List Str) : List (List Str) := (us.filter fun u => decide (u ∈ ks)).map fun u => [u, x]
theorem l0 {ks : List Str} {x : Str} {us : List Str} {j : Nat} {u : Str} (h : us[j]? = some u) : iW ks x (us.take (j + 1)) = iW ks x (us.take j) ++ if u ∈ ks then [[u, x]] else [] := by
 unfold iW
 rw [List.take_add_one, h, List.filter_append, List.map_append]
 by_cases hu : u ∈ ks <;> simp [hu]
theorem oG {α β : Type} {f : α → List β} {n : Nat} : ∀ (l : List α), (∀ a ∈ l, (f a).length ≤ n) → (l.flatMap f).length ≤ l.length * n
 | [], _ => by simp
 | a :: l, h => by
  have h1 := h a (.head _)
  have h2 := oG l fun b hb => h b (.tail _ hb)
  rw [List.flatMap_cons, List.length_append, List.length_cons, Nat.succ_mul, Nat.add_comm]
  exact Nat.add_le_add h2 h1
theorem mq {α β : Type} (f : α → List β) {l : List α} {i : Nat} {a : α} (h : l[i]? = some a) : (l.take (i + 1)).flatMap f = (l.take i).flatMap f ++ f a := by
 rw [List.take_add_one, h, List.flatMap_append]
 simp
theorem D3.prs {K : List Str} {σ : ag} {a b c : Addr} {ka kb kc : List (Str × V)} {e1 e2 e3 : Nat} (d : D3 K a b c ka kb kc e1 e2 e3 σ) (x : Str) (us : List Str) (hus : ∀ u ∈ us, u ∈ bB x) (hn : us.Nodup) : (iW (keysOf (eP ka kb kc)) x us).length ≤ 2 := by
 unfold iW
 rw [List.length_map]
 exact ry d.tb d.tc _ (hn.filter _) (fun u hu => hus u (List.mem_filter.mp hu).1) fun u hu => vd (of_decide_eq_true (List.mem_filter.mp hu).2)
theorem D3.st {K : List Str} {σ : ag} {a b c : Addr} {ka kb kc : List (Str × V)} {e1 e2 e3 : Nat} (d : D3 K a b c ka kb kc e1 e2 e3 σ) : (keysOf (eP ka kb kc)).length ≤ 18 := by
 unfold keysOf eP
 rw [List.length_map]
 exact Nat.le_trans (List.length_filterMap_le _ _) d.len
theorem D3.told {K : List Str} {σ : ag} {a b c : Addr} {ka kb kc : List (Str × V)} {e1 e2 e3 : Nat} (d : D3 K a b c ka kb kc e1 e2 e3 σ) (ks : List Str) (hk : ks.length ≤ 18) : ((kZ ka kb kc).map (fun x => [x]) ++ ks.flatMap fun x => iW (keysOf (eP ka kb kc)) x (bB x)).length ≤ 54 := by
 have h1 : (kZ ka kb kc).length ≤ 18 := Nat.le_trans (List.length_filter_le _ _) d.len
 have h2 := oG (f := fun x => iW (keysOf (eP ka kb kc)) x (bB x)) (n := 2) ks fun x _ => d.prs x _ (fun _ h => h) (jt x)
 rw [List.length_append, List.length_map]
 omega
structure Kl (t : Addr) (o : AObj) (xs : List String) (m₀ : aU) (σ₀ : ag) (m : aU) (σ' : ag) : Prop where
 k : ∀ z oz, σ₀ z = some oz → z ≠ t → σ' z = some oz
 x : σ' t = some o
 m : ∀ y, y ∉ xs → m y = m₀ y
theorem Kl.grow {t : Addr} {o : AObj} {xs : List String} {m₀ m : aU} {σ σ₀ σ' : ag} (I : Kl t o xs m₀ σ₀ m σ') (ht : σ t = Option.none) (g : Grow σ σ₀) : Grow σ σ' := fun d o' e => I.k d o' (g d o' e) (by rintro rfl; rw [ht] at e; cases e)
theorem qy {m₀ : aU} {σ₀ : ag} {t f l : Addr} {kf : List (Str × V)} {ef : Nat} {xss : List (List Str)} {y : Str} {us : List Str} {Q : Fl → aU → ag → Prop} (ht : f ≠ t) (htl : l ≠ t) (xt : σ₀ t = some (.list (xss.map cT))) (xf : σ₀ f = some (.dict kf ef)) (xl : σ₀ l = some (.list (us.map .str)))
  (mt : m₀ "told" = some (.ref t)) (mf : m₀ "files" = some (.ref f)) (mp : m₀ "path" = some (.str y)) (hz : ∀ j, (iW (keysOf kf) y (us.take j)).length ≤ 2) (hx : xss.length ≤ 54)
  (h : ∀ m σ', Lp t (.list ((xss ++ iW (keysOf kf) y us).map cT)) ["folder"] m₀ σ₀ m σ' → Q .next m σ') :
  iq (.name "folder") (fun σ => σ l = some (.list (us.map .str))) (aq (dP (aJ (ax cG (ae "folder") (ae "files"))) (aq (bO (a6 ca bg (ae "told") (ai (gY (ai (ae "folder") (ai (ae "path") ay))) ay)))
 ar) ar)
 ar) (us.map .str) m₀ σ₀ Q := by
 refine a5 (fun j m σ' => Lp t (.list ((xss ++ iW (keysOf kf) y (us.take j)).map cT)) ["folder"] m₀ σ₀ m σ') (fun _ _ _ => False)
  (fun j m σ' h => by rw [h.s _ htl]; exact xl) _ ?_ ?_ (fun _ _ _ h => h.elim) _ _ ⟨fun _ _ => rfl, by simpa [iW] using xt, fun _ _ => rfl⟩
 ·intro j v m σ' Q' hv I n1 n2 n3
  obtain ⟨u, hu, rfl⟩ := dQ hv
  refine ⟨_, rfl, ?_⟩
  have e1 := (I.m "told" (by decide)).trans mt
  have e2 := (I.m "files" (by decide)).trans mf
  have e3 := (I.m "path" (by decide)).trans mp
  have yf : σ' f = some (.dict kf ef) := by rw [I.s _ ht]; exact xf
  have h2 := I.x
  have pl := hz j
  rw [am]
  simp [e2]
  refine cM yf ?_
  rw [bH]
  by_cases hin : u ∈ keysOf kf
  ·have h' : u ∈ kf.map (·.1) := hin
   simp only [h', decide_true, dh, if_true]
   rw [am]
   simp [e1, e3, bX h2]
   refine cm h2 (by rw [List.length_map, List.length_append]; exact oj fun hg => lN [(xss.length), ((iW (keysOf kf) y (List.take j us)).length)] 0xa404000000a1088212843610481 rfl hx pl hg) ?_
   refine n1 _ _ ?_
   rw [l0 hu, if_pos hin, ← List.append_assoc, List.map_append]
   exact I.set fun z hz => aE hz (by decide)
  ·have h' : u ∉ kf.map (·.1) := hin
   simp only [h', decide_false, dh, Bool.false_eq_true, if_false]
   exact n1 _ _ (I.at (by rw [l0 hu, if_neg hin, List.append_nil]) fun z hz => aE hz (by decide))
 ·intro m σ' I
  rw [List.length_map, List.take_length] at I
  exact h m σ' I
theorem rK (ns : List Int) : ∀ vs σ Q, sp_clashes ns vs σ Q → vs.length = 3 ∧ gv ns (aG ["elder", "one", "other"] vs aN) σ (fin Q) := by
 rintro vs σ Q ⟨K, a, b, c, ka, kb, kc, e1, e2, e3, rfl, d, q⟩
 refine ⟨rfl, ?_⟩
 unfold gv
 rw [am]
 simp [jG]
 refine sW d fun l σ₁ g1 hl xl => ?_
 rw [bf xl]
 have cll : (kZ ka kb kc).length ≤ 18 := Nat.le_trans (List.length_filter_le _ _) d.len
 refine gj (fun s => s = σ₁) (fun s hs => by rw [hs]; exact xl) _ (((kZ ka kb kc).map fun x => [x]).map cT) [] _ _ (by simp) (by simp; exact Nat.le_trans cll (by decide)) ?_ rfl ?_
 ·rintro i v y hv hy s Q' rfl n
  obtain ⟨x, hx, rfl⟩ := dQ hv
  refine ⟨_, rfl, ?_⟩
  simp
  have : y = .tup [.str x] := by
   rw [List.map_map, List.getElem?_map, hx] at hy
   exact (Option.some.inj hy).symm
  rw [← this]
  exact n _ rfl
 ·rintro s rfl t ht
  rw [List.nil_append]
  have htn := g1.none ht
  have g2 := g1.upd (o := .list (((kZ ka kb kc).map fun x => [x]).map cT)) ht
  have xt := an s t (.list (((kZ ka kb kc).map fun x => [x]).map cT))
  generalize (a8 s t (.list (((kZ ka kb kc).map fun x => [x]).map cT))) = σ₂ at g2 xt ⊢
  rw [am]
  simp [jF]
  refine wB (d.grow g2) fun f ef σ₃ g3 hf xf => ?_
  have htf : f ≠ t := by rintro rfl; rw [xt] at hf; cases hf
  have g23 := g2.trans g3
  rw [am]
  simp [jE, cH xf]
  refine a5 (fun i m σ' => Kl t (.list (((kZ ka kb kc).map (fun x => [x]) ++ ((keysOf (eP ka kb kc)).take i).flatMap fun x => iW (keysOf (eP ka kb kc)) x (bB x)).map cT)) ["path", "folder"] _ σ₃ m σ') (fun _ _ _ => False)
   (fun j m σ' h => h.k _ _ xf htf) _ ?_ ?_ (fun _ _ _ h => h.elim) _ _ ⟨fun _ _ e _ => e, by simpa using g3 _ _ xt, fun _ _ => rfl⟩
  ·intro i v m σ' Q' hv I n1 n2 n3
   obtain ⟨y, hy, rfl⟩ := gV hv
   refine ⟨_, rfl, ?_⟩
   have hyk := d.key (gE.mp (List.mem_of_getElem? hy)).1
   have mt : m "told" = some (.ref t) := (I.m _ (by decide)).trans rfl
   have mf : m "files" = some (.ref f) := (I.m _ (by decide)).trans rfl
   have h2 := I.x
   have fl := d.told ((keysOf (eP ka kb kc)).take i) (Nat.le_trans (List.length_take_le' _ _) d.st)
   rw [am]
   simp
   refine sY (d.un.len y hyk) fun r σ₄ g4 hr xr => ?_
   rw [bf xr]
   have hrt : r ≠ t := by rintro rfl; rw [h2] at hr; cases hr
   refine qy (y := y) htf hrt (g4 _ _ h2) (g4 _ _ (I.k _ _ xf htf)) xr mt mf rfl (fun j => d.prs y _ (fun u hu => List.mem_of_mem_take hu) ((jt y).sublist (List.take_sublist _ _))) fl fun m₅ σ₅ L => ?_
   rw [bi]
   simp
   refine n1 _ _ ⟨fun z oz e hz => by rw [L.s z hz]; exact g4 _ _ (I.k z oz e hz), ?_, fun z hz => (L.m z fun e => hz (List.mem_cons_of_mem _ e)).trans ((aE hz (by decide)).trans (I.m z hz))⟩
   rw [mq _ hy, ← List.append_assoc]; exact L.x
  ·intro m σ' I
   rw [show (keysOf (eP ka kb kc)).take ((eP ka kb kc).map fun q => V.str q.1).length = keysOf (eP ka kb kc) from List.take_of_length_le (by simp [keysOf])] at I
   have mt : m "told" = some (.ref t) := (I.m _ (by decide)).trans rfl
   rw [bi, am]
   simp [jD, mt]
   refine ⟨ct ka kb kc, I.x, ?_, Nat.lt_of_le_of_lt (d.told _ d.st) (by decide), fun yss hpm r hr => ?_⟩
   ·intro l hl
    rcases List.mem_append.mp hl with h | h
    ·obtain ⟨x, _, rfl⟩ := List.mem_map.mp h; simp
    ·obtain ⟨x, _, h⟩ := List.mem_flatMap.mp h
     obtain ⟨u, _, rfl⟩ := List.mem_map.mp h; simp
   ·have g := I.grow htn g23
    exact q yss hpm r _ (g.upd hr) (g.none hr) (an _ _ _)
end Mine
end
noncomputable section
set_option tactic.hygienic false
set_option maxHeartbeats 1000000
namespace Mine
open PySem PySem.W PyProof.Rows PySem.Calls
structure Gk (P : Prop) (xs : List String) (m₀ : aU) (σ₀ : ag) (m : aU) (σ' : ag) : Prop where
 g : Grow σ₀ σ'
 m : ∀ y, y ∉ xs → m y = m₀ y
 p : P
theorem p7 {m₀ : aU} {σ₀ : ag} {K S l : List Str} {a : Addr} {fk : List (Str × V)} {ef : Nat} {Q : Fl → aU → ag → Prop} (hK : Kp K) (ha : σ₀ a = some (.dict fk ef)) (hm : m₀ "known" = some (.ref a)) (hn : Fnd K fk S) (hl : ∀ x ∈ l, x ∈ K)
  (h : ∀ m σ', FndI K a ["path"] m₀ σ₀ (S ++ l) m σ' → Q .next m σ') :
  iq (.name "path") (fun _ => True) (aq (bA gA (az (.bool true)) (ae "known") (ae "path")) ar) (l.map .str) m₀ σ₀ Q := by
 refine a5 (fun i m σ' => FndI K a ["path"] m₀ σ₀ (S ++ l.take i) m σ') (fun _ _ _ => False)
  (fun _ _ _ _ => trivial) _ ?_ ?_ (fun _ _ _ h => h.elim) _ _ ⟨fk, ef, ⟨fun _ _ => rfl, ha, fun _ _ => rfl⟩, by rw [List.take_zero, List.append_nil]; exact hn⟩
 ·rintro i v m σ' Q' hv ⟨fk', ef', L, F⟩ n1 n2 n3
  obtain ⟨y, hy, rfl⟩ := dQ hv
  refine ⟨_, rfl, ?_⟩
  simp [am, L.m "known" (by decide), hm]
  refine er L.x (Nat.lt_of_le_of_lt (F.len hK) (by decide)) fun ep2 => ?_
  refine n1 _ _ ⟨_, ep2, L.set fun y hy => aE hy (by decide), ?_⟩
  rw [List.take_add_one, hy, ← List.append_assoc]
  exact F.put (hl _ (List.mem_of_getElem? hy))
 ·rintro m σ' I
  rw [List.length_map, List.take_length] at I
  exact h m σ' I
theorem j5 {K : List Str} {σ : ag} {a b c : Addr} {ka kb kc : List (Str × V)} {e1 e2 e3 : Nat} (d : D3 K a b c ka kb kc e1 e2 e3 σ) {l : List Str} (hl : l ∈ ct ka kb kc) {x : Str} (hx : x ∈ l) : x ∈ K := by
 rcases List.mem_append.mp hl with h | h
 ·obtain ⟨y, hy, rfl⟩ := List.mem_map.mp h
  rw [List.mem_singleton.mp hx]
  exact d.key (List.mem_filter.mp hy).1
 ·obtain ⟨y, hy, h⟩ := List.mem_flatMap.mp h
  obtain ⟨u, hu, rfl⟩ := List.mem_map.mp h
  rcases List.mem_cons.mp hx with rfl | hx
  ·exact d.key (gE.mp (of_decide_eq_true (List.mem_filter.mp hu).2)).1
  ·rw [List.mem_singleton.mp hx]; exact d.key (gE.mp hy).1
theorem mP {xss : List (List Str)} {i : Nat} {v : V} (h : (xss.map cT)[i]? = some v) : ∃ l, xss[i]? = some l ∧ v = cT l := by
 rw [List.getElem?_map] at h
 obtain ⟨q, hq, rfl⟩ := Option.map_eq_some_iff.mp h
 exact ⟨q, hq, rfl⟩
theorem rs {kvs : List (Str × V)} {x : Str} (h : x ∉ keysOf kvs) : fw kvs x = kvs := by
 unfold fw
 exact List.filter_eq_self.mpr fun q hq => by
  have : q.1 ≠ x := fun e => h (e ▸ List.mem_map.mpr ⟨q, hq, rfl⟩)
  simpa using this
theorem rP {f pk : List (Str × V)} {i : Nat} {q : Str × V} (h : pk[i]? = some q) : bp f (pk.take (i + 1)) = ib (bp f (pk.take i)) q := by
 unfold bp
 rw [List.take_add_one, h, List.foldl_append]; rfl
theorem In0.pick {K : List Str} {f pk : List (Str × V)} (h : In0 K f) (hk : ∀ x ∈ keysOf pk, x ∈ K) : In0 K (bp f pk) := by
 unfold bp
 induction pk generalizing f with
 | nil => exact h
 | cons q r ih =>
  refine ih (f := ib f q) ?_ fun x hx => hk x (.tail _ hx)
  unfold ib
  split
  ·exact h.put (hk _ (.head _))
  ·exact h.cut
theorem sV (a b c : List (Str × V)) : ∀ ks : List Str, List.Sublist (keysOf (ks.filterMap (vf a b c))) ks
 | [] => List.Sublist.slnil
 | x :: ks => by
  have ih := sV a b c ks
  rw [List.filterMap_cons]
  unfold vf
  cases bI (gS a x) (gS b x) (gS c x) with
  | none => exact ih.cons _
  | some y => exact ih.cons_cons _
theorem D3.st0 {K : List Str} {σ : ag} {a b c : Addr} {ka kb kc : List (Str × V)} {e1 e2 e3 : Nat} (d : D3 K a b c ka kb kc e1 e2 e3 σ) : In0 K (eP ka kb kc) :=
 ⟨fun x hx => d.key (gE.mp hx).1, fun q hq => by
  obtain ⟨x, _, e⟩ := List.mem_filterMap.mp hq
  obtain ⟨y, _, rfl⟩ := Option.map_eq_some_iff.mp e
  exact ⟨y, rfl⟩, (sV ka kb kc (di ka kb kc)).nodup (ja _ _ _)⟩
theorem OkJ.inn {K : List Str} {σ : ag} {a b c : Addr} {ka kb kc pk : List (Str × V)} {e1 e2 e3 : Nat} (o : OkJ ka kb kc pk) (d : D3 K a b c ka kb kc e1 e2 e3 σ) (hk : ∀ x ∈ keysOf pk, x ∈ K) : Inn K (bp (eP ka kb kc) pk) :=
 ⟨d.st0.pick hk, fun x hx y hy => by
  cases e : Txt.startswith x (y ++ Str.ofString "/") with
  | false => rfl
  | true => exact absurd hy (o.fre x hx y ((jc y x).mpr e))⟩
theorem rR {K : List Str} {pk kf : List (Str × V)} {p f : Addr} {ep ef : Nat} {m₀ : aU} {σ₀ : ag} {Q : Fl → aU → ag → Prop} (hK : Kp K) (hP : Pk pk) (hk : ∀ x ∈ keysOf pk, x ∈ K) (xp : σ₀ p = some (.dict pk ep)) (xf : σ₀ f = some (.dict kf ef)) (hpf : p ≠ f) (hin : In0 K kf) (mp : m₀ "picks" = some (.ref p)) (mf : m₀ "files" = some (.ref f))
  (h : ∀ m σ', LpD f (bp kf pk) ["path"] m₀ σ₀ m σ' → Q .next m σ') :
  iq (.name "path") (fun σ => σ p = some (.dict pk ep)) (aq (dP (aJ (ax c9 (ax dU (ae "picks") (ae "path")) (az .none))) (aq (bA gA (ax dU (ae "picks") (ae "path")) (ae "files") (ae "path")) ar) (aq (dP (aJ (ax cG (ae "path") (ae "files"))) (aq (bO (a6 bq lV (ae "files") (ai (ae "path") ay))) ar) ar) ar)) ar) (pk.map fun q => .str q.1) m₀ σ₀ Q := by
 refine a5 (fun i m σ' => LpD f (bp kf (pk.take i)) ["path"] m₀ σ₀ m σ') (fun _ _ _ => False)
  (fun i m σ' ⟨_, I⟩ => by rw [I.s p hpf]; exact xp) _ ?_ ?_ (fun _ _ _ h => h.elim) _ _ ⟨ef, fun _ _ => rfl, xf, fun _ _ => rfl⟩
 ·rintro i v m σ' Q' hv' ⟨ef', I⟩ n1 n2 n3
  rw [List.getElem?_map] at hv'
  obtain ⟨⟨y, w⟩, hq, rfl⟩ := Option.map_eq_some_iff.mp hv'
  have hqm := List.mem_of_getElem? hq
  have hyK := hk y (List.mem_map.mpr ⟨_, hqm, rfl⟩)
  have yp : σ' p = some (.dict pk ep) := by rw [I.s p hpf]; exact xp
  obtain ⟨w', g1, g2⟩ := dc (show y ∈ pk.map (·.1) from List.mem_map.mpr ⟨_, hqm, rfl⟩)
  cases ik hP.nodup g2 hqm
  obtain ⟨o, ho⟩ := hP.val _ hqm
  have ho : w = eg o := ho
  subst ho
  have h7 := (I.m "picks" (by decide)).trans mp
  have h6 := (I.m "files" (by decide)).trans mf
  have h1 := I.x
  have i0 : In0 K (bp kf (pk.take i)) := hin.pick fun x hx => hk x (by
   obtain ⟨q, hq, rfl⟩ := List.mem_map.mp hx
   exact List.mem_map.mpr ⟨q, List.mem_of_mem_take hq, rfl⟩)
  have ht := rP (f := kf) hq
  refine ⟨_, rfl, ?_⟩
  rw [am]
  simp [h7]
  refine i5 yp g1 ?_
  cases o with
  | none =>
   have ht : bp kf (pk.take (i + 1)) = fw (bp kf (pk.take i)) y := ht
   simp [eg, lS]
   rw [am]
   simp [h6]
   refine cM h1 ?_
   rw [bH]
   by_cases hin' : y ∈ keysOf (bp kf (pk.take i))
   ·have h' : y ∈ (bp kf (pk.take i)).map (·.1) := hin'
    obtain ⟨v2, hv2, _⟩ := dc h'
    simp only [h', decide_true, dh, if_true]
    rw [am]
    simp [h6, cA h1]
    refine n9 h1 hv2 fun ep' => ?_
    refine n1 _ _ ⟨ep', ?_⟩
    rw [ht]
    exact I.set fun z hz => aE hz (by decide)
   ·have h' : y ∉ (bp kf (pk.take i)).map (·.1) := hin'
    simp only [h', decide_false, dh, Bool.false_eq_true, if_false]
    exact n1 _ _ ⟨ef', I.at (by rw [ht, rs hin']) fun z hz => aE hz (by decide)⟩
  | some t =>
   have ht : bp kf (pk.take (i + 1)) = bb (bp kf (pk.take i)) y (.str t) := ht
   simp [eg, lS]
   rw [am]
   simp [h6, h7]
   refine i5 yp g1 ?_
   try simp [eg]
   refine er h1 (Nat.lt_of_le_of_lt (i0.len hK) (by decide)) fun ep2 => ?_
   refine n1 _ _ ⟨ep2, ?_⟩
   rw [ht]
   exact I.set fun z hz => aE hz (by decide)
 ·rintro m σ' I
  rw [List.length_map, List.take_length] at I
  exact h m σ' I
theorem te (ns : List Int) : ∀ vs σ Q X, sp_joined ns vs σ Q X → vs.length = 4 ∧ iE ns (aG ["elder", "one", "other", "picks"] vs aN) σ (fin Q) (fun c _ σ' => X c σ') := by
 rintro vs σ Q X ⟨K, a, b, c, ka, kb, kc, e1, e2, e3, p, pk, ep, rfl, d, xp, hP, hpk, hX, q⟩
 refine ⟨rfl, ?_⟩
 unfold iE
 rw [aC]
 simp [ls]
 intro kn en hkn
 have g1 : Grow σ (a8 σ kn (.dict [] en)) := Grow.refl.upd hkn
 have xk := an σ kn (.dict [] en)
 generalize (a8 σ kn (.dict [] en)) = σ₁ at g1 xk ⊢
 show aV _ _ _ _ _ _
 rw [aC]
 simp [lr]
 refine wC (d.grow g1) fun fs hfs l σ₂ g2 hl xl => ?_
 rw [bf xl]
 have hlk : l ≠ kn := by rintro rfl; rw [xk] at hl; cases hl
 have g12 := g1.trans g2
 refine a5 (fun i m σ' => FndI K kn ["clash", "path"] _ σ₂ ((fs.take i).flatMap id) m σ') (fun _ _ _ => False)
  (fun i m σ' ⟨_, _, L, _⟩ => by rw [L.s l hlk]; exact xl) _ ?_ ?_ (fun _ _ _ h => h.elim) _ _ ⟨[], en, ⟨fun _ _ => rfl, g2 _ _ xk, fun _ _ => rfl⟩, List.nodup_nil, fun _ => Iff.rfl, fun _ h => (nomatch h)⟩
 ·rintro i v m σ' Q' hv ⟨fk, ef, L, F⟩ n1 n2 n3
  obtain ⟨y, hy, rfl⟩ := mP hv
  have hyt : y ∈ ct ka kb kc := hfs.mem_iff.mp (List.mem_of_getElem? hy)
  refine ⟨_, rfl, ?_⟩
  rw [am]
  simp
  refine p7 d.un L.x ((aE (xs := ["clash"]) (by decide) (by decide)).trans ((L.m _ (by decide)).trans rfl)) F (fun x hx => j5 d hyt hx) fun m₂ σ₂' ⟨fk2, ef2, L2, F2⟩ => ?_
  rw [bi]
  simp
  refine n1 _ _ ⟨fk2, ef2, ⟨fun z hz => by rw [L2.s z hz]; exact L.s z hz, L2.x, fun z hz => (L2.m z fun e => hz (List.mem_cons_of_mem _ e)).trans ((aE hz (by decide)).trans (L.m z hz))⟩, ?_⟩
  rw [mq _ hy]; exact F2
 rintro m σ₃ ⟨fk, ef, L, F⟩
 rw [List.length_map, List.take_length] at F
 have kn_iff : ∀ x, x ∈ keysOf fk ↔ ∃ l ∈ ct ka kb kc, x ∈ l := fun x => (F.mem x).trans (List.mem_flatMap.trans ⟨fun ⟨l, h1, h2⟩ => ⟨l, hfs.mem_iff.mp h1, h2⟩, fun ⟨l, h1, h2⟩ => ⟨l, hfs.mem_iff.mpr h1, h2⟩⟩)
 have g3 : Grow σ σ₃ := L.grow hkn g12
 have xk3 := L.x
 have xp3 := g3 _ _ xp
 have mk : m "known" = some (.ref kn) := (L.m _ (by decide)).trans rfl
 have me : m "elder" = some (.ref a) := (L.m _ (by decide)).trans rfl
 have mo : m "one" = some (.ref b) := (L.m _ (by decide)).trans rfl
 have mt : m "other" = some (.ref c) := (L.m _ (by decide)).trans rfl
 have mp : m "picks" = some (.ref p) := (L.m _ (by decide)).trans rfl
 clear L F
 rw [bx, aC]
 simp [lq, mp, cH xp3]
 refine eh (fun i m' σ' => Gk (∀ x ∈ (keysOf pk).take i, x ∈ keysOf fk) ["path"] m σ₃ m' σ' ∧ σ' = σ₃) (fun i m' σ' h => by rw [h.2]; exact xp3) _ ?_ ?_ _ _ ⟨⟨Grow.refl, fun _ _ => rfl, fun _ h => (nomatch h)⟩, rfl⟩
 ·rintro i v m' σ' Q' hv ⟨I, rfl⟩ n1
  obtain ⟨y, hy, rfl⟩ := gV hv
  refine ⟨_, rfl, ?_⟩
  rw [aC]
  simp [(I.m "known" (by decide)).trans mk]
  refine gQ xk3 ?_
  rw [bH]
  by_cases hyk : y ∈ keysOf fk
  ·simp only [decide_eq_true (show y ∈ fk.map (·.1) from hyk), Bool.not_true]
   simp
   refine n1 _ _ ⟨⟨Grow.refl, fun z hz => (aE hz (by decide)).trans (I.m z hz), fun x hx => ?_⟩, rfl⟩
   rw [List.take_add_one, hy] at hx
   rcases List.mem_append.mp hx with hx | hx
   ·exact I.p x hx
   ·have hx : x = y := by simpa using hx
    rw [hx]; exact hyk
  ·simp only [decide_eq_false (show y ∉ fk.map (·.1) from hyk), Bool.not_false]
   simp [aC]
   exact hX (fun o => hyk ((kn_iff y).mpr (o.known y (List.mem_of_getElem? hy)))) _ _ (by decide) g3
 rintro m' σ' ⟨I, rfl⟩
 have k1 := I.p
 rw [List.take_of_length_le (by simp [keysOf])] at k1
 replace me := (I.m "elder" (by decide)).trans me
 replace mo := (I.m "one" (by decide)).trans mo
 replace mt := (I.m "other" (by decide)).trans mt
 replace mp := (I.m "picks" (by decide)).trans mp
 clear I
 rw [bx, aC]
 simp [lp, me, mo, mt]
 refine sW (d.grow g3) fun l4 σ₄ g4 hl4 xl4 => ?_
 rw [bf xl4]
 have xp4 := g4 _ _ xp3
 have g34 := g3.trans g4
 refine eh (fun i m'' σ'' => Gk (∀ x ∈ (kZ ka kb kc).take i, x ∈ keysOf pk) ["path"] m' σ₄ m'' σ'' ∧ σ'' = σ₄) (fun i m' σ' h => by rw [h.2]; exact xl4) _ ?_ ?_ _ _ ⟨⟨Grow.refl, fun _ _ => rfl, fun _ h => (nomatch h)⟩, rfl⟩
 ·rintro i v m'' σ'' Q' hv ⟨I, rfl⟩ n1
  obtain ⟨y, hy, rfl⟩ := dQ hv
  refine ⟨_, rfl, ?_⟩
  rw [aC]
  simp [(I.m "picks" (by decide)).trans mp]
  refine gQ xp4 ?_
  rw [bH]
  by_cases hyk : y ∈ keysOf pk
  ·simp only [decide_eq_true (show y ∈ pk.map (·.1) from hyk), Bool.not_true]
   simp
   refine n1 _ _ ⟨⟨Grow.refl, fun z hz => (aE hz (by decide)).trans (I.m z hz), fun x hx => ?_⟩, rfl⟩
   rw [List.take_add_one, hy] at hx
   rcases List.mem_append.mp hx with hx | hx
   ·exact I.p x hx
   ·have hx : x = y := by simpa using hx
    rw [hx]; exact hyk
  ·simp only [decide_eq_false (show y ∉ pk.map (·.1) from hyk), Bool.not_false]
   simp [aC]
   exact hX (fun o => hyk (o.cl y (List.mem_of_getElem? hy))) _ _ (by decide) g34
 rintro m'' σ'' ⟨I, rfl⟩
 have k2 := I.p
 rw [List.length_map, List.take_length] at k2
 replace me := (I.m "elder" (by decide)).trans me
 replace mo := (I.m "one" (by decide)).trans mo
 replace mt := (I.m "other" (by decide)).trans mt
 replace mp := (I.m "picks" (by decide)).trans mp
 clear I
 rw [bx, aC]
 simp [ll, me, mo, mt]
 refine wB (d.grow g34) fun f ef5 σ₅ g5 hf xf => ?_
 have hpf : p ≠ f := by rintro rfl; rw [xp4] at hf; cases hf
 have hfn : σ f = Option.none := g34.none hf
 have g35 := g34.trans g5
 rw [aC]
 simp [lk, mp, cH (g5 _ _ xp4)]
 refine rR d.un hP hpk (g5 _ _ xp4) xf hpf d.st0 mp rfl fun m₆ σ₆ ⟨ef6, I6⟩ => ?_
 have xf6 := I6.x
 have g6 : Grow σ σ₆ := I6.grow hfn g35
 have mf : m₆ "files" = some (.ref f) := (I6.m _ (by decide)).trans rfl
 have hin := d.st0.pick hpk
 clear I6
 rw [bx, aC]
 simp [lj, mf, cH xf6]
 refine eh (fun i m σ' => Gk (∀ x ∈ (keysOf (bp (eP ka kb kc) pk)).take i, ∀ u ∈ bB x, u ∉ keysOf (bp (eP ka kb kc) pk)) ["path", "folder"] m₆ σ₆ m σ') (fun i m σ' h => h.g _ _ xf6) _ ?_ ?_ _ _ ⟨Grow.refl, fun _ _ => rfl, fun _ h => (nomatch h)⟩
 ·intro i v m σ' Q' hv I n1
  obtain ⟨y, hy, rfl⟩ := gV hv
  have hyk := hin.sub y (List.mem_of_getElem? hy)
  refine ⟨_, rfl, ?_⟩
  rw [aC]
  simp
  refine sY (d.un.len y hyk) fun r σ₇ g7 hr xr => ?_
  rw [bf xr]
  have xf7 := g7 _ _ (I.g _ _ xf6)
  refine eh (fun j m₂ σ₂ => Gk (∀ u ∈ (bB y).take j, u ∉ keysOf (bp (eP ka kb kc) pk)) ["folder"] (put m "path" (.str y)) σ₇ m₂ σ₂ ∧ σ₂ = σ₇) (fun j m₂ σ₂ h => by rw [h.2]; exact xr) _ ?_ ?_ _ _ ⟨⟨Grow.refl, fun _ _ => rfl, fun _ h => (nomatch h)⟩, rfl⟩
  ·rintro j v m₂ σ₂ Q₂ hv ⟨J, rfl⟩ n2
   obtain ⟨u, hu, rfl⟩ := dQ hv
   have mf2 : m₂ "files" = some (.ref f) := (J.m _ (by decide)).trans ((aE (xs := ["path"]) (by decide) (by decide)).trans ((I.m _ (by decide)).trans mf))
   refine ⟨_, rfl, ?_⟩
   rw [aC]
   simp [mf2]
   refine cM xf7 ?_
   rw [bH]
   by_cases huk : u ∈ keysOf (bp (eP ka kb kc) pk)
   ·simp only [decide_eq_true (show u ∈ (bp (eP ka kb kc) pk).map (·.1) from huk)]
    simp [aC]
    exact hX (fun o => o.fre y (List.mem_of_getElem? hy) u (List.mem_of_getElem? hu) huk) _ _ (by decide) (g6.trans (I.g.trans g7))
   ·simp only [decide_eq_false (show u ∉ (bp (eP ka kb kc) pk).map (·.1) from huk)]
    simp
    refine n2 _ _ ⟨⟨Grow.refl, fun z hz => (aE hz (by decide)).trans (J.m z hz), fun x hx => ?_⟩, rfl⟩
    rw [List.take_add_one, hu] at hx
    rcases List.mem_append.mp hx with hx | hx
    ·exact J.p x hx
    ·have hx : x = u := by simpa using hx
     rw [hx]; exact huk
  ·rintro m₂ σ₂ ⟨J, rfl⟩
   have jp := J.p
   rw [List.length_map, List.take_length] at jp
   rw [bx]
   simp
   refine n1 _ _ ⟨I.g.trans g7, fun z hz => (J.m z fun e => hz (List.mem_cons_of_mem _ e)).trans ((aE hz (by decide)).trans (I.m z hz)), fun x hx => ?_⟩
   rw [List.take_add_one, hy] at hx
   rcases List.mem_append.mp hx with hx | hx
   ·exact I.p x hx
   ·have hx : x = y := by simpa using hx
    rw [hx]; exact jp
 ·intro m σ' I
  have k3 := I.p
  rw [List.take_of_length_le (by simp [keysOf])] at k3
  rw [bx, qF, am]
  simp [li, (I.m "files" (by decide)).trans mf]
  exact q f ef6 σ' ⟨fun x hx => (kn_iff x).mp (k1 x hx), k2, k3⟩ (g6.trans I.g) hfn (I.g _ _ xf6)
theorem Near.uniq {ps : List (List Int)} {n m M N : Int} (h : Near ps n m M) (h' : Near ps n m N) : M = N := Int.le_antisymm (h'.max _ h.a1 h.a2) (h.max _ h'.a1 h'.a2)
theorem tg (ns : List Int) : ∀ vs σ Q X, spX_merge ns vs σ Q X → vs.length = 4 ∧ iJ ns (aG ["self", "one", "other", "picks"] vs aN) σ (fin Q) (fun c _ σ' => X c σ') := by
 rintro vs σ Q X ⟨K, b, t, mo, ads, ts, ps, n, k, p, pk, ep, M, ke, kn, km, rfl, B, h0, h1, k0, k1, xp, hP, hpk, hN, he, hn, hk, hz, hX, q⟩
 refine ⟨rfl, ?_⟩
 unfold iJ
 rw [aC]
 simp [lB, bh B]
 refine dX B h0 h1 ?_
 rw [aC]
 simp [lA, bh B]
 refine dX B k0 k1 ?_
 rw [aC]
 simp [ly]
 by_cases hne : n = k
 ·simp [hne, aC]
  exact hX (.inl hne) _ _ (by decide) Grow.refl
 simp [hne]
 rw [aC]
 simp [lx, bh B]
 refine ⟨K, b, t, mo, ads, ts, ps, n, k, rfl, B, h0, h1, k0, k1, fun M' σ₁ g1 hN' => ?_⟩
 cases hN.uniq hN'
 have B1 := B.grow g1
 have hM := hN.a1.le B.ord.lt h0
 rw [aC]
 simp [lw, e7 B1]
 refine B1.itemT hM.1 he fun d1 e1 x1 => ?_
 try simp [e7 B1]
 refine B1.itemT h0 hn fun d2 e2 x2 => ?_
 try simp [e7 B1]
 refine B1.itemT k0 hk fun d3 e3 x3 => ?_
 try simp
 have D : D3 K d1 d2 d3 ke kn km e1 e2 e3 σ₁ := ⟨x1, x2, x3, B.tree _ (List.mem_of_getElem? he), B.tree _ (List.mem_of_getElem? hn), B.tree _ (List.mem_of_getElem? hk), B.un⟩
 refine ⟨K, d1, d2, d3, ke, kn, km, e1, e2, e3, p, pk, ep, rfl, D, g1 _ _ xp, hP, hpk, fun ho c σ' hc g => hX (.inr ho) c σ' hc (g1.trans g), fun f ef σ₂ ho g2 hf xf => ?_⟩
 have B2 := B1.grow g2
 try simp
 rw [am]
 simp [lv, bh B2]
 refine ⟨K, b, t, mo, ads, ts, ps, f, _, ef, [min n k, max n k], rfl, B2, xf, ho.inn D hpk, hz, by simp, by simp, fun x hx => ?_, fun σ₃ KK B3 => ?_⟩
 ·simp at hx
  rcases hx with rfl | rfl <;> omega
 ·exact q f σ₃ hne ho ((g1.trans g2).keep KK) B3
end Mine
end
noncomputable section
set_option tactic.hygienic false
set_option maxHeartbeats 1000000
namespace Mine
open PySem PySem.W PyProof.Rows PySem.Calls
structure Cm (ps : List (List Int)) (e N : Int) (kvs : List (Int × V)) : Prop where
 self : cf kvs e = some (.int e)
 dom : ∀ x, (cf kvs x).isSome = true → x ≠ e → e < x ∧ x < N ∧ ∃ p l, cf kvs x = some (.int p) ∧ ps[x.toNat]? = some l ∧ p ∈ l ∧ (cf kvs p).isSome = true
 all : ∀ x, x < N → Anc ps x e → (cf kvs x).isSome = true
theorem Anc.inv {ps : List (List Int)} {x e : Int} (h : Anc ps x e) : x = e ∨ ∃ p l, ps[x.toNat]? = some l ∧ p ∈ l ∧ Anc ps p e := by
 cases h with
 | self => exact .inl rfl
 | up h1 h2 h3 => exact .inr ⟨_, _, h1, h2, h3⟩
theorem Anc.ge {ps : List (List Int)} (o : Ord ps) {x e : Int} (h : Anc ps x e) (e0 : 0 ≤ e) : e ≤ x := by
 induction h with
 | self n => exact Int.le_refl _
 | @up n p x l h1 h2 _ ih =>
  have hp := o.lt _ _ h1 p h2
  have := ih e0
  rcases Int.lt_or_le n 0 with hn | hn
  ·have e1 : n.toNat = 0 := Int.toNat_of_nonpos (Int.le_of_lt hn)
   rw [e1] at hp
   exact absurd hp.2 (Int.not_lt.mpr hp.1)
  ·obtain ⟨j, rfl⟩ := Int.eq_ofNat_of_zero_le hn
   exact Int.le_trans this (Int.le_of_lt hp.2)
theorem Cm.anc {ps : List (List Int)} (o : Ord ps) {e N : Int} {kvs : List (Int × V)} (c : Cm ps e N kvs) (e0 : 0 ≤ e) : ∀ (k : Nat), (cf kvs (k : Int)).isSome = true → Anc ps k e := by
 intro k
 induction k using Nat.strongRecOn with
 | _ k ih =>
  intro h
  by_cases he : (k : Int) = e
  ·rw [he]; exact .self _
  ·obtain ⟨h1, h2, p, l, h3, h4, h5, h6⟩ := c.dom _ h he
   have hp := o.lt _ _ h4 p h5
   obtain ⟨j, rfl⟩ := Int.eq_ofNat_of_zero_le hp.1
   exact .up h4 h5 (ih j (Int.ofNat_lt.mp hp.2) h6)
theorem Road.cons {ps : List (List Int)} {c c' n : Int} {r l : List Int} (h : Road ps c n r) (hl : ps[c.toNat]? = some l) (hm : c' ∈ l) : Road ps c' n (c' :: r) := by
 induction h with
 | one => exact .more (r := [c']) .one hl hm
 | more _ h1 h2 ih => exact .more (ih) h1 h2
theorem ki {ns : List Int} {ps : List (List Int)} {e n N : Int} {kvs : List (Int × V)} {f w : Addr} {ep : Nat} {σ₀ : ag} {Q : Fl → aU → ag → Prop} (o : Ord ps) (c : Cm ps e N kvs) (e0 : 0 ≤ e) (hwf : w ≠ f)
  (q : ∀ m σ' r, (∀ z, z ≠ w → σ' z = σ₀ z) → σ' w = some (.list (r.reverse.map V.int)) → Road ps e n r → r.length ≤ 40 → m "row" = some (.ref w) → Q .next m σ') :
  ∀ (k : Nat) (cur : Int) (xs r : List Int) (m : aU) (σ' : ag), (cur - e).toNat < k → (cf kvs cur).isSome = true → xs ++ [cur] = r.reverse → Road ps cur n r → r.length + (cur - e).toNat ≤ 40 → (∀ z, z ≠ w → σ' z = σ₀ z) → σ₀ f = some (.idict kvs ep) → σ' w = some (.list (xs.map V.int ++ [.int cur])) → m "row" = some (.ref w) → m "elder" = some (.int e) → m "came" = some (.ref f) →
   iQ (aJ (ax cc (ax (aL ns) (ae "row") (vW ie (az (.int 1)))) (ae "elder"))) (aq (bO (a6 ca bg (ae "row") (ai (ax ig (ae "came") (ax (aL ns) (ae "row") (vW ie (az (.int 1))))) ay))) ar) k m σ' Q
 | 0, cur, xs, r, m, σ', h, _, _, _, _, _, _, _, _, _, _ => absurd h (Nat.not_lt_zero _)
 | k + 1, cur, xs, r, m, σ', hk, hs, hr, hR, hlen, hz, hf, hw, m1, m2, m3 => by
  have hf' : σ' f = some (.idict kvs ep) := by rw [hz f hwf.symm]; exact hf
  unfold iQ
  simp [m1, m2, m3]
  refine i4 hw ?_
  by_cases he : cur = e
  ·subst he
   simp
   exact q m σ' r hz (by rw [← hr]; simpa using hw) hR (Nat.le_trans (Nat.le_add_right _ _) hlen) m1
  ·obtain ⟨h1, h2, p, l, h3, h4, h5, h6⟩ := c.dom _ hs he
   have hp := o.lt _ _ h4 p h5
   have hpe : e ≤ p := by
    by_cases hpp : p = e
    ·exact Int.le_of_eq hpp.symm
    ·exact Int.le_of_lt (c.dom p h6 hpp).1
   have hlt : p < cur := by
    have := hp.2
    rwa [Int.toNat_of_nonneg (Int.le_trans e0 (Int.le_of_lt h1))] at this
   simp [he, am, m1, m3, bX hw]
   refine i4 hw ?_
   refine p9 hf' h3 ?_
   have hl1 : (xs.map V.int ++ [V.int cur]).length = r.length := by rw [← List.length_reverse (as := r), ← hr]; simp
   have hl2 : (xs.map V.int ++ [V.int cur]).length ≤ 40 := hl1 ▸ Nat.le_trans (Nat.le_add_right _ _) hlen
   have hstep : (p - e).toNat < (cur - e).toNat := (Int.toNat_lt_toNat (Int.sub_pos_of_lt (Int.lt_of_le_of_lt hpe hlt))).mpr (Int.sub_lt_sub_right hlt e)
   refine cm hw (Nat.lt_of_le_of_lt hl2 (by decide)) ?_
   exact ki o c e0 hwf q k p (xs ++ [cur]) (p :: r) _ _ (Nat.lt_of_lt_of_le hstep (Nat.le_of_lt_succ hk)) h6 (by rw [hr, List.reverse_cons]) (hR.cons h4 h5) (Nat.le_trans (by rw [List.length_cons, Nat.add_right_comm, Nat.add_assoc]; exact Nat.add_le_add_left hstep _) hlen) (fun z hz' => by rw [aI hz']; exact hz z hz') hf (by rw [an]; simp) m1 m2 m3
theorem wW (ns : List Int) : ∀ vs σ Q, sp_road ns vs σ Q → vs.length = 3 ∧ nz ns (aG ["self", "elder", "number"] vs aN) σ (fin Q) := by
 rintro vs σ Q ⟨K, b, t, mo, ads, ts, ps, e, n, rfl, B, e0, e1, n0, n1, hA, qr⟩
 refine ⟨rfl, ?_⟩
 have o := B.ord
 have few : ts.length ≤ 40 := B.lenP ▸ o.few
 unfold nz
 rw [am]
 simp [o6, bh B]
 refine dX B e0 e1 ?_
 rw [am]
 simp [o5, bh B]
 refine dX B n0 n1 ?_
 rw [am]
 simp [o4]
 intro f ef hf
 have xf := an σ f (.idict [(e, .int e)] ef)
 have g0 : Grow σ (a8 σ f (.idict [(e, .int e)] ef)) := Grow.refl.upd hf
 generalize (a8 σ f (.idict [(e, .int e)] ef)) = σ₂ at xf g0 ⊢
 rw [am]
 simp [o3]
 refine ⟨⟨by omega, by omega, by omega, by omega⟩, ?_⟩
 have c0 : Cm ps e (e + 1) [(e, .int e)] := by
  have hg : ∀ x, cf [(e, V.int e)] x = if x = e then some (.int e) else Option.none := fun x => by
   unfold cf
   by_cases h : x = e
   ·subst h; simp
   ·rw [if_neg h, List.find?_cons_of_neg (by simpa using Ne.symm h)]; rfl
  refine ⟨by rw [hg, if_pos rfl], fun x h1 h2 => ?_, fun x h1 h2 => ?_⟩
  ·rw [hg, if_neg h2] at h1; cases h1
  ·have := h2.ge o e0
   rw [hg, if_pos (by omega)]; rfl
 refine a5 (fun i m σ' => ∃ kvs ep, σ' f = some (.idict kvs ep) ∧ Grow σ σ' ∧ Cm ps e (e + 1 + i) kvs ∧ kvs.length ≤ 1 + 2 * i ∧ m "self" = some (.ref b) ∧ m "came" = some (.ref f) ∧ m "number" = some (.int n) ∧ m "elder" = some (.int e)) (fun _ _ _ => False)
  (fun _ _ _ _ => trivial) _ ?_ ?_ (fun _ _ _ h => h.elim) _ _ ⟨_, _, xf, g0, by simpa using c0, by simp, by simp, by simp, by simp, by simp⟩
 ·rintro i v m σ' Q' hv ⟨kvs, ep, hk, g, c, hlen, hs, hc, hn, he⟩ q1 q2 q3
  obtain ⟨hi, rfl⟩ := dB hv
  have B' := B.grow g
  refine ⟨_, rfl, ?_⟩
  have k1 : e < e + 1 + (i : Int) := Int.lt_of_lt_of_le (Int.lt_add_one_of_le (Int.le_refl e)) (Int.le_add_of_nonneg_right (Int.natCast_nonneg i))
  have k2 : e + 1 + (i : Int) < e + 1 + ((i + 1 : Nat) : Int) := Int.add_lt_add_left (Int.ofNat_lt.mpr (Nat.lt_succ_self i)) _
  have hj0 : 0 ≤ e + 1 + (i : Int) := Int.le_trans e0 (Int.le_of_lt k1)
  have hlt2 : (e + 1 + (i : Int)).toNat < ps.length := by rw [B.lenP]; omega
  have hgl : ps[(e + 1 + (i : Int)).toNat]? = some ps[(e + 1 + (i : Int)).toNat] := List.getElem?_eq_getElem hlt2
  generalize ps[(e + 1 + (i : Int)).toNat] = l at hgl
  simp [am, hs, qx B']
  refine B'.itemM hj0 hgl ?_
  have hol := o.lt _ _ hgl
  have hl2 := o.two _ _ hgl
  have hk0 : (((e + 1 + (i : Int)).toNat : Nat) : Int) = e + 1 + i := Int.toNat_of_nonneg hj0
  rw [hk0] at hol
  try simp
  refine a5 (fun j m σ'' => ∃ kvs' ep', σ'' f = some (.idict kvs' ep') ∧ Grow σ σ'' ∧ m "self" = some (.ref b) ∧ m "came" = some (.ref f) ∧ m "number" = some (.int n) ∧ m "elder" = some (.int e) ∧ m "k" = some (.int (e + 1 + i)) ∧ kvs'.length ≤ kvs.length + j ∧
    (∀ x, x ≠ e + 1 + i → cf kvs' x = cf kvs x) ∧ ((cf kvs' (e + 1 + i)).isSome = true → ∃ p, cf kvs' (e + 1 + i) = some (.int p) ∧ p ∈ l ∧ (cf kvs p).isSome = true) ∧ (∀ p ∈ l.take j, (cf kvs p).isSome = true → (cf kvs' (e + 1 + i)).isSome = true))
   (fun _ _ _ => False) (fun _ _ _ _ => trivial) _ ?_ ?_ (fun _ _ _ h => h.elim) _ _ ⟨kvs, ep, hk, g, by simp [hs], by simp [hc], by simp [hn], by simp [he], by simp, by simp, fun _ _ => rfl, fun h => absurd (c.dom _ h (Int.ne_of_gt k1)).2.1 (Int.lt_irrefl _), by simp⟩
  ·rintro j v m σ'' Q'' hv ⟨kvs', ep', hk', g', hs', hc', hn', he', hkk, hlen', a1, a2, a3⟩ r1 r2 r3
   obtain ⟨p, hp, rfl⟩ := ue hv
   have hj : j < l.length := (List.getElem?_eq_some_iff.mp hp).1
   have hpl := List.mem_of_getElem? hp
   have hpk : p ≠ e + 1 + i := Int.ne_of_lt (hol p hpl).2
   refine ⟨_, rfl, ?_⟩
   simp [am, hc', hkk]
   refine oB hk' ?_
   simp only [dh]
   split
   ·rename_i hyes
    have hle := jm kvs' (e + 1 + i) (.int p)
    refine lX hk' (by omega) fun ep'' => ?_
    rw [a1 p hpk] at hyes
    refine r1 _ _ ⟨_, _, an _ _ _, g'.over hf, hs', hc', hn', he', hkk, by omega, fun x hx => ?_, fun _ => ?_, fun y hy h => ?_⟩
    ·rw [fO, if_neg hx]; exact a1 x hx
    ·exact ⟨p, by rw [fO, if_pos rfl], hpl, hyes⟩
    ·rw [fO, if_pos rfl]; rfl
   ·rename_i hno
    refine r1 _ _ ⟨kvs', ep', hk', g', hs', hc', hn', he', hkk, by exact Nat.le_succ_of_le hlen', a1, a2, fun y hy h => ?_⟩
    rw [List.take_add_one, hp] at hy
    rcases List.mem_append.mp hy with hy | hy
    ·exact a3 y hy h
    ·simp at hy; subst hy
     rw [a1 y hpk] at hno
     exact absurd h hno
  ·rintro m σ'' ⟨kvs', ep', hk', g', hs', hc', hn', he', hkk, hlen', a1, a2, a3⟩
   rw [List.length_map] at hlen' a3
   rw [List.take_length] at a3
   try simp
   have hee : e ≠ e + 1 + i := Int.ne_of_lt k1
   refine q1 _ _ ⟨kvs', ep', hk', g', ⟨by rw [a1 e hee]; exact c.self, fun x h1 h2 => ?_, fun x h1 h2 => ?_⟩, by exact dK fun hg => lN [(kvs.length), i, (l.length), (kvs'.length)] 0xe518841084030988038441098251082108081 rfl hlen hl2 hlen' hg, hs', hc', hn', he'⟩
   ·by_cases hx : x = e + 1 + i
    ·subst hx
     obtain ⟨p, p1, p2, p3⟩ := a2 h1
     exact ⟨k1, k2, p, l, p1, hgl, p2, by rw [a1 p (Int.ne_of_lt (hol p p2).2)]; exact p3⟩
    ·rw [a1 x hx] at h1
     obtain ⟨b1, b2, p, l', b3, b4, b5, b6⟩ := c.dom x h1 h2
     have hp := o.lt _ _ b4 p b5
     rw [Int.toNat_of_nonneg (Int.le_trans e0 (Int.le_of_lt b1))] at hp
     exact ⟨b1, Int.lt_trans b2 k2, p, l', by rw [a1 x hx]; exact b3, b4, b5, by rw [a1 p (Int.ne_of_lt (Int.lt_trans hp.2 b2))]; exact b6⟩
   ·by_cases hx : x = e + 1 + i
    ·subst hx
     rcases h2.inv with h | ⟨p, l', u1, u2, u3⟩
     ·exact absurd h.symm hee
     ·rw [hgl] at u1; cases u1
      exact a3 p u2 (c.all p (hol p u2).2 u3)
    ·rw [a1 x hx]; exact c.all x (Int.lt_iff_le_and_ne.mpr ⟨Int.le_of_lt_add_one (by rw [Int.add_assoc (e + 1)]; exact h1), hx⟩) h2
 ·rintro m σ' ⟨kvs, ep, hk, g, c, hlen, hs, hc, hn, he⟩
  rw [cY] at c
  rw [bi, am]
  simp [o0, hn, hc]
  refine oi hk ?_
  have hanc : (cf kvs n).isSome = true ↔ Anc ps n e := by
   obtain ⟨j, rfl⟩ := Int.eq_ofNat_of_zero_le n0
   refine ⟨c.anc o e0 j, fun h => ?_⟩
   have := h.ge o e0
   exact c.all _ (by omega) h
  have hsm := hanc.mpr hA
  simp [hsm]
  rw [am]
  simp [oZ, hn]
  intro w hw
  have hwf : w ≠ f := by rintro rfl; rw [hk] at hw; cases hw
  have xw := an σ' w (.list [.int n])
  have hwn := g.none hw
  have s1 : ∀ z, z ≠ w → a8 σ' w (.list [.int n]) z = σ' z := fun z h => aI h
  generalize (a8 σ' w (.list [.int n])) = σ₃ at xw s1 ⊢
  rw [am]
  have hge := hA.ge o e0
  refine ⟨(n - e).toNat + 1, ?_⟩
  refine ki (f := f) (w := w) (ep := ep) (σ₀ := σ') o c e0 hwf (fun m₂ σ₄ r z1 z2 z3 z4 z5 => ?_) _ n [] [n] _ σ₃ (Nat.lt_succ_self _) hsm rfl .one (by simp; omega) s1 hk (by simpa using xw) rfl he hc
  rw [bi, am]
  simp [oY, z5]
  refine tj z2 fun a ha => ?_
  rw [← List.map_reverse, List.reverse_reverse]
  have g4 : Grow σ σ₄ := fun z oz ez => by
   have : z ≠ w := by rintro rfl; rw [hwn] at ez; cases ez
   rw [z1 z this]; exact g z oz ez
  exact qr r z3 z4 a _ (g4.upd ha) (g4.none ha) (an _ _ _)
end Mine
end
noncomputable section
set_option tactic.hygienic false
set_option maxHeartbeats 1000000
namespace Mine
open PySem PySem.W PyProof.Rows PySem.Calls
theorem i1 (k : Nat) : 0 ≤ 1 + (k : Int) := Int.add_nonneg (by decide) (Int.natCast_nonneg k)
theorem i2 (k : Nat) : (1 + (k : Int)).toNat = k + 1 := by rw [Int.add_comm]; rfl
theorem y4 (c : Int) (n : Nat) (h : 0 < n) : ∃ r : Nat, c % (n : Int) = r ∧ r < n := by
 obtain ⟨r, e⟩ := Int.eq_ofNat_of_zero_le (Int.emod_nonneg c (Int.ne_of_gt (Int.ofNat_lt.mpr h)))
 have := Int.emod_lt_of_pos c (Int.ofNat_lt.mpr h)
 rw [e] at this
 exact ⟨r, e, Int.ofNat_lt.mp this⟩
theorem w8 (c : Int) (n : Nat) (h : 0 < n) : 0 ≤ 1 + c % (n : Int) ∧ (1 + c % (n : Int)).toNat ≤ n ∧ 0 < (1 + c % (n : Int)).toNat := by
 obtain ⟨r, e, hr⟩ := y4 c n h
 rw [e, i2]
 exact ⟨i1 r, hr, Nat.succ_pos r⟩
theorem zP (c : Int) (n : Nat) (h : 0 < n) (h' : n < 1000) : (-4611686018427387904 ≤ 1 + c % (n : Int) ∧ 1 + c % (n : Int) < 4611686018427387904) ∧ 1 + c % (n : Int) ≤ 1048576 := by
 obtain ⟨r, e, hr⟩ := y4 c n h
 rw [e]
 have : 1 + (r : Int) ≤ 1000 := by
  rw [Int.add_comm]
  exact Int.ofNat_le.mpr (Nat.le_trans hr (Nat.le_of_lt h'))
 exact ⟨⟨Int.le_trans (by decide) (i1 r), Int.lt_of_le_of_lt this (by decide)⟩, Int.le_trans this (by decide)⟩
theorem wf : (cl Ab).length = 65 := by decide +kernel
theorem wV (ns : List Int) : ∀ vs σ Q, sp__law_sign_by ns vs σ Q → vs.length = 1 ∧ cO ns (aG ["_law_k"] vs aN) σ (fin Q) := by
 rintro vs σ Q ⟨k, rfl, q⟩
 refine ⟨rfl, ?_⟩
 have h0 : 0 ≤ k % 65 := Int.emod_nonneg _ (by decide)
 simp [cO, eG, am]
 refine ua (by decide +kernel) h0 (c := (cl Ab).getD (k % 65).toNat 0) ?_ q
 show (cl Ab)[(k % 65).toNat]? = _
 obtain ⟨r, e, h⟩ : ∃ r : Nat, k % 65 = r ∧ r < 65 := y4 k 65 (by decide)
 rw [List.getD_eq_getElem?_getD, e, List.getElem?_eq_getElem (i := (r : Int).toNat) (wf ▸ h)]
 rfl
@[simp] theorem zL {ns : List Int} {σ : ag} {Q : V → ag → Prop} {k : Int} : sp__law_sign_by ns [.int k] σ Q = Q (.str (bn k)) σ := propext ⟨fun ⟨_, e, q⟩ => by cases e; exact q, fun h => ⟨_, rfl, h⟩⟩
theorem AX {x J a R : Nat} (h : J ≤ a + R) : x + (J + 1) ≤ x + a + (R + 1) := by
 rw [Nat.add_assoc, ← Nat.add_assoc a]
 exact Nat.add_le_add_left (Nat.succ_le_succ h) x
theorem t8 (c : Nat) : ∀ l : List (List Nat), (jn c l).length ≤ (l.map List.length).sum + l.length
 | [] => Nat.le_refl _
 | [x] => by simp [jn]
 | x :: y :: r => by
  have := t8 c (y :: r)
  simp only [jn, List.length_append, List.length_cons, List.map_cons, List.sum_cons] at this ⊢
  exact AX this
theorem t7 (l : List Str) : (Str.join (Str.ofString "/") l).length ≤ (l.map (·.length)).sum + l.length := by
 rw [eZ, lW, gk]
 have := t8 47 (l.map cl)
 rw [List.map_map, List.length_map] at this
 have e : l.map (List.length ∘ cl) = l.map (·.length) := List.map_congr_left fun x _ => (eZ x).symm
 rwa [e] at this
theorem sT {l : List Str} (h : ∀ x ∈ l, x.length ≤ 14) : (l.map (·.length)).sum ≤ 14 * l.length := by
 induction l with
 | nil => exact Nat.le_refl _
 | cons x r ih =>
  have h1 := h x (.head _)
  have h2 := ih fun y hy => h y (.tail _ hy)
  rw [List.map_cons, List.sum_cons, List.length_cons, Nat.mul_succ, Nat.add_comm]
  exact Nat.add_le_add h2 h1
theorem ww : ∀ j : Nat, j < 6 → (Str.ofString (toString ((j : Nat) : Int))).length ≤ 12 := by decide +kernel
theorem m9 {x : Str} (h : x.length ≤ 2) : (kJ x).length ≤ 2 := by
 unfold kJ
 split
 ·exact Nat.le_of_eq (by decide +kernel)
 ·exact h
theorem iS {s : Int} {x : Str} (h : x ∈ gF s) : x.length ≤ 14 := by
 refine Nat.le_trans (m := 2) ?_ (by decide)
 have h1 : (bn s).length ≤ 2 := Nat.le_succ _
 have h2 : (bn (s + 26)).length ≤ 2 := Nat.le_succ _
 have h3 : (bn s ++ bn (s + 1)).length ≤ 2 := by rw [gU]; exact Nat.le_refl 2
 rcases List.mem_cons.mp h with rfl | h
 ·exact m9 h1
 ·rcases List.mem_cons.mp h with rfl | h
  ·exact m9 h2
  ·rw [List.mem_singleton.mp h]; exact m9 h3
theorem qI (s : Int) : 0 ≤ 1 + s / 5 % 6 ∧ (1 + s / 5 % 6).toNat ≤ 6 ∧ 0 < (1 + s / 5 % 6).toNat := w8 (s / 5) 6 (by decide)
theorem lT (s : Int) : (de s).length ≤ 6 ∧ ∀ x ∈ de s, x.length ≤ 14 := by
 have hn := qI s
 unfold de
 split
 ·rw [List.length_map, List.length_range]
  refine ⟨hn.2.1, fun x hx => ?_⟩
  obtain ⟨j, hj, rfl⟩ := List.mem_map.mp hx
  rw [List.mem_range] at hj
  have := ww j (Nat.lt_of_lt_of_le hj hn.2.1)
  have e : (Str.ofString "up").length = 2 := by decide +kernel
  rw [gU, e]; exact Nat.add_le_add_left this 2
 ·exact ⟨by decide, fun _ h => (nomatch h)⟩
theorem qX {s : Int} {l : List Str} : l ∈ pY s ↔ (∃ x ∈ gF s, l = [x]) ∨ ∃ x ∈ gF s, ∃ y ∈ gF s, l = [x, y] := by
 unfold pY
 rw [List.mem_append, List.mem_map, List.mem_flatMap]
 refine or_congr ⟨fun ⟨x, h, e⟩ => ⟨x, h, e.symm⟩, fun ⟨x, h, e⟩ => ⟨x, h, e.symm⟩⟩ ⟨fun ⟨x, h, h2⟩ => ?_, fun ⟨x, h, y, h2, e⟩ => ⟨x, h, List.mem_map.mpr ⟨y, h2, e.symm⟩⟩⟩
 obtain ⟨y, h3, e⟩ := List.mem_map.mp h2
 exact ⟨x, h, y, h3, e.symm⟩
theorem tW {s : Int} {l : List Str} (h : ∀ x ∈ l, x ∈ gF s) (h1 : 0 < l.length) (h2 : l.length ≤ 2) : l ∈ pY s := by
 rw [qX]
 cases l with
 | nil => exact absurd h1 (Nat.lt_irrefl 0)
 | cons x r =>
  cases r with
  | nil => exact .inl ⟨x, h x (.head _), rfl⟩
  | cons y r =>
   cases r with
   | nil => exact .inr ⟨x, h x (.head _), y, h y (.tail _ (.head _)), rfl⟩
   | cons z r => exact absurd (Nat.le_of_succ_le_succ (Nat.le_of_succ_le_succ h2)) (Nat.not_succ_le_zero _)
theorem l8 {s : Int} {l : List Str} (h : l ∈ pY s) : l.length ≤ 2 ∧ ∀ x ∈ l, x.length ≤ 14 := by
 rcases qX.mp h with ⟨x, hx, rfl⟩ | ⟨x, hx, y, hy, rfl⟩
 ·exact ⟨Nat.le_succ _, fun z hz => by rw [List.mem_singleton.mp hz]; exact iS hx⟩
 ·refine ⟨Nat.le_refl _, fun z hz => ?_⟩
  rcases List.mem_cons.mp hz with rfl | hz
  ·exact iS hx
  ·rw [List.mem_singleton.mp hz]; exact iS hy
theorem p4 {s : Int} {l : List Str} (h : l ∈ pY s) : Str.join (Str.ofString "/") (de s ++ l) ∈ KS s := List.mem_append_right _ (List.mem_map.mpr ⟨l, h, rfl⟩)
theorem ze {s : Int} {k : Nat} (h : k < 6) : Str.join (Str.ofString "/") ((de s).take (k + 1)) ∈ KS s := List.mem_append_left _ (List.mem_map.mpr ⟨k, List.mem_range.mpr h, rfl⟩)
theorem zf (s : Int) : Kp (KS s) := by
 have hu := lT s
 have big : ∀ l : List Str, l.length ≤ 8 → (∀ x ∈ l, x.length ≤ 14) → (Str.join (Str.ofString "/") l).length ≤ 200 := fun l h1 h2 => by
  have h3 := t7 l
  exact Nat.le_trans h3 (Nat.le_trans (Nat.add_le_add (Nat.le_trans (sT h2) (Nat.mul_le_mul_left 14 h1)) h1) (by decide))
 refine ⟨Nat.le_refl 18, fun x hx => ?_⟩
 rcases List.mem_append.mp hx with h | h
 ·obtain ⟨k, _, rfl⟩ := List.mem_map.mp h
  refine big _ (Nat.le_trans (List.length_take_le' _ _) (Nat.le_trans hu.1 (by decide))) fun x hx => hu.2 x (List.mem_of_mem_take hx)
 ·obtain ⟨l, hl, rfl⟩ := List.mem_map.mp h
  have hf := l8 hl
  refine big _ (by rw [List.length_append]; exact dK fun hg => lN [((de s).length), (l.length)] 0xa402021184410942608481 rfl (hu).1 (hf).1 hg) fun x hx => ?_
  rcases List.mem_append.mp hx with h | h
  ·exact hu.2 x h
  ·exact hf.2 x h
theorem zj {σ : ag} {Q : V → ag → Prop} {ns : List Int} {a : Addr} {l : List V} (k : Int) (h : σ a = some (.list l)) (hl : l.length = 3) (q : ∀ v ∈ l, Q v σ) : aL ns (.ref a) (.int (k % 3)) σ Q := by
 obtain ⟨r, e, hr⟩ : ∃ r : Nat, k % 3 = r ∧ r < 3 := y4 k 3 (by decide)
 rw [← hl] at hr
 rw [e]
 exact co h (Int.natCast_nonneg _) (List.getElem?_eq_getElem (i := (r : Int).toNat) hr) (q _ (List.getElem_mem hr))
theorem u7 {i : Nat} (h : i < 2) : ∃ dv : Int, (0 < dv ∧ dv < 1073741824) ∧ ([V.int 1, V.int 3] : List V)[i]? = some (.int dv) := by
 cases i with
 | zero => exact ⟨1, by decide, rfl⟩
 | succ i =>
  cases i with
  | zero => exact ⟨3, by decide, rfl⟩
  | succ i => exact absurd (Nat.lt_of_succ_lt_succ (Nat.lt_of_succ_lt_succ h)) (Nat.not_lt_zero _)
inductive PbI (s : Int) (w : Addr) (m₀ : aU) (σ₀ : ag) (i : Nat) (m : aU) (σ' : ag) : Prop
 | mk (xs : List Str) (l : xs.length = i) (h : ∀ x ∈ xs, x ∈ gF s) (I : Kl w (.list (xs.map .str)) ["_law_j", "_law_some", "_law_part"] m₀ σ₀ m σ') : PbI s w m₀ σ₀ i m σ'
theorem kr {ns : List Int} {s : Int} {m : aU} {σ σ' : ag} {Q : V → ag → Prop} {w : Addr} {l : List Str} (q : ∀ x σ', Grow σ σ' → x ∈ KS s → Q (.str x) σ') (g : Grow σ σ') (xw : σ' w = some (.list (l.map .str))) (mw : m "_law_parts" = some (.ref w)) (h8 : l.length ≤ 8) (hl : ∀ x ∈ l, x.length ≤ 14) (hk : Str.join (Str.ofString "/") l ∈ KS s) : aq (cZ ns) ar m σ' (fin Q) := by
 rw [am]
 simp [cZ, mw]
 refine ma xw ?_ (q _ σ' g hk)
 rw [ee, Nat.mul_one]
 exact Nat.le_trans (Nat.add_le_add (Nat.le_trans (sT hl) (Nat.mul_le_mul_left 14 h8)) h8) (by decide)
theorem td (ns : List Int) : ∀ vs σ Q, sp__law_path_by ns vs σ Q → vs.length = 2 ∧ cP ns (aG ["_law_cell", "_law_shift"] vs aN) σ (fin Q) := by
 rintro vs σ Q ⟨c, s, rfl, q⟩
 refine ⟨rfl, ?_⟩
 unfold cP
 rw [am]
 simp [eJ]
 intro w hw
 have g0 : Grow σ (a8 σ w (.list [])) := Grow.refl.upd hw
 have xw := an σ w (.list [])
 generalize (a8 σ w (.list [])) = σ₁ at g0 xw ⊢
 show aq _ _ _ _ _
 rw [am]
 simp [eI]
 refine ⟨(zP c 2 (by decide) (by decide)).1, ?_⟩
 refine a5 (fun i m σ' => PbI s w _ σ₁ i m σ') (fun _ _ _ => False) (fun _ _ _ _ => trivial) _ ?_ ?_ (fun _ _ _ h => h.elim) _ _ ⟨[], rfl, fun _ h => (nomatch h), fun _ _ e _ => e, xw, fun _ _ => rfl⟩
 ·rintro i v m σ' Q' hv ⟨xs, hl, hx, I⟩ n1 n2 n3
  obtain ⟨hi, rfl⟩ := dB hv
  have hi2 : i < 2 := Nat.lt_of_lt_of_le hi (w8 c 2 (by decide)).2.1
  have mw : m "_law_parts" = some (.ref w) := (I.m _ (by decide)).trans rfl
  have mc : m "_law_cell" = some (.int c) := (I.m _ (by decide)).trans rfl
  have ms : m "_law_shift" = some (.int s) := (I.m _ (by decide)).trans rfl
  refine ⟨_, rfl, ?_⟩
  have l1 : ∀ k, (bn k).length = 1 := fun _ => rfl
  rw [am]
  simp [ms, l1]
  intro so hso
  have g1 : Grow σ' (a8 σ' so (.list [.str (bn s), .str (bn (s + 26)), .str (bn s ++ bn (s + 1))])) := Grow.refl.upd hso
  have xs3 := an σ' so (.list [.str (bn s), .str (bn (s + 26)), .str (bn s ++ bn (s + 1))])
  generalize (a8 σ' so (.list [.str (bn s), .str (bn (s + 26)), .str (bn s ++ bn (s + 1))])) = σ₂ at g1 xs3 ⊢
  show aq _ _ _ _ _
  rw [am]
  simp [mc]
  intro ta hta
  have g2 : Grow σ' (a8 σ₂ ta (.list [.int 1, .int 3])) := g1.upd hta
  have xt := an σ₂ ta (.list [.int 1, .int 3])
  have xs3' : a8 σ₂ ta (.list [.int 1, .int 3]) so = _ := (Grow.refl.upd hta) _ _ xs3
  generalize (a8 σ₂ ta (.list [.int 1, .int 3])) = σ₃ at g2 xt xs3' ⊢
  obtain ⟨dv, hd, hdv⟩ := u7 hi2
  refine co xt (Int.natCast_nonneg _) (v := .int dv) (by rw [Int.toNat_natCast]; exact hdv) ?_
  rw [vY]
  refine ⟨hd, ?_⟩
  try simp
  refine zj _ xs3' rfl fun u hu => ?_
  obtain ⟨x, hx0, rfl⟩ := List.mem_map.mp (show u ∈ List.map V.str [bn s, bn (s + 26), bn s ++ bn (s + 1)] from hu)
  have hx3 : kJ x ∈ gF s := List.mem_map_of_mem (f := kJ) hx0
  have h2 := g2 _ _ I.x
  have last : ∀ m' : aU, m' "_law_part" = some (.str (kJ x)) → (∀ y, y ∉ ["_law_j", "_law_some", "_law_part"] → m' y = m y) → (aq (bO (a6 ca bg (ae "_law_parts") (ai (ae "_law_part") ay))) ar) m' σ₃ Q' := by
   intro m' z1 z2
   rw [am]
   simp [z1, z2 "_law_parts" (by decide), mw, bX h2]
   refine cm h2 (by rw [List.length_map]; exact oj fun hg => lN [(xs.length), i] 0x900000028422084a309481 rfl (Nat.le_of_eq hl) hi2 hg) ?_
   refine n1 _ _ ⟨xs ++ [kJ x], by rw [List.length_append, hl]; rfl, fun y hy => ?_, ⟨fun z oz e hz => by rw [aI hz]; exact g2 _ _ (I.k z oz e hz), by rw [an, List.map_append]; rfl, fun y hy => (z2 y hy).trans (I.m y hy)⟩⟩
   rcases List.mem_append.mp hy with hy | hy
   ·exact hx y hy
   ·rw [List.mem_singleton.mp hy]; exact hx3
  rw [am]
  simp
  by_cases he : x = Str.ofString "."
  ·rw [if_pos he, am]
   simp
   exact last _ (by simp [kJ, he]) fun y hy => by rw [aE hy (by decide), aE hy (by decide), aE hy (by decide), aE hy (by decide)]
  ·rw [if_neg he]
   exact last _ (by simp [kJ, he]) fun y hy => by rw [aE hy (by decide), aE hy (by decide), aE hy (by decide)]
 rintro m σ' ⟨xs, hl, hx, I⟩
 rw [cY] at hl
 have xl : xs ∈ pY s := tW hx (hl ▸ (w8 c 2 (by decide)).2.2) (hl ▸ (w8 c 2 (by decide)).2.1)
 have hf := l8 xl
 have hu := lT s
 have g1 := I.grow hw g0
 have mw : m "_law_parts" = some (.ref w) := (I.m _ (by decide)).trans rfl
 have mc : m "_law_cell" = some (.int c) := (I.m _ (by decide)).trans rfl
 have ms : m "_law_shift" = some (.int s) := (I.m _ (by decide)).trans rfl
 have hx1 := I.x
 clear I
 rw [bi, am]
 simp [eH, ms]
 by_cases h5 : s % 5 = 3
 ·rw [if_pos h5, am]
  have hn := qI s
  simp [ms]
  refine ⟨(zP (s / 5) 6 (by decide) (by decide)).1, ?_⟩
  have eu : de s = (List.range (1 + s / 5 % 6).toNat).map fun j => Str.ofString "up" ++ Str.ofString (toString ((j : Nat) : Int)) := by unfold de; rw [if_pos h5]
  refine gj (fun s' => s' = σ') (fun _ _ => trivial) _ ((de s).map .str) [] _ _ (by rw [eu]; simp [cY]) (by simp [cY]; exact (zP (s / 5) 6 (by decide) (by decide)).2) ?_ rfl ?_
  ·rintro j v y hv hy s' Q' rfl n
   obtain ⟨hj, rfl⟩ := dB hv
   refine ⟨_, rfl, ?_⟩
   have hj6 := Nat.lt_of_lt_of_le hj hn.2.1
   have sl : (Str.ofString (((j : Nat) : Int).repr)).length ≤ 12 := ww j hj6
   have e2 : (Str.ofString "up").length = 2 := by decide +kernel
   simp [e2]
   refine ⟨?_, Nat.le_trans (Nat.add_le_add_left sl 2) (by decide), ?_⟩
   ·by_cases hj0 : j = 0
    ·subst hj0; decide
    ·exact Nat.lt_trans ((Nat.log2_lt hj0).mpr (Nat.lt_trans hj6 (show 6 < 2 ^ 40 by decide))) (by decide)
   ·rw [eu, List.map_map, List.getElem?_map, List.getElem?_range hj] at hy
    cases hy
    exact n _ rfl
  ·rintro s' rfl r hr
   rw [List.nil_append]
   have g2 := g1.upd (o := .list ((de s).map V.str)) hr
   have xr := an s' r (.list ((de s).map V.str))
   have hx2 : a8 s' r (.list ((de s).map V.str)) w = _ := (Grow.refl.upd hr) _ _ hx1
   generalize (a8 s' r (.list ((de s).map V.str))) = σ₂ at g2 xr hx2 ⊢
   try simp [mw]
   refine iw xr hx2 (by rw [List.length_map, List.length_map]; exact Nat.le_trans (Nat.add_le_add hu.1 hf.1) (by decide)) fun a ha => ?_
   rw [← List.map_append]
   have g3 := g2.upd (o := .list ((de s ++ xs).map V.str)) ha
   have xa := an σ₂ a (.list ((de s ++ xs).map V.str))
   generalize (a8 σ₂ a (.list ((de s ++ xs).map V.str))) = σ₃ at g3 xa ⊢
   have h14 : ∀ x ∈ de s ++ xs, x.length ≤ 14 := fun x hx => (List.mem_append.mp hx).elim (hu.2 x) (hf.2 x)
   have h8 : (de s ++ xs).length ≤ 8 := by rw [List.length_append]; exact Nat.add_le_add hu.1 hf.1
   have hx1 : 0 < xs.length := hl ▸ (w8 c 2 (by decide)).2.2
   show aq _ _ _ _ _
   rw [am]
   simp [mc]
   by_cases h13 : c % 13 = 6
   ·rw [if_pos h13, am]
    simp [mc, dg xa]
    have hp : 0 < (de s).length + xs.length := Nat.add_pos_right _ hx1
    refine ⟨Int.ofNat_lt.mpr hp, ?_⟩
    obtain ⟨n, e, hn⟩ : ∃ n : Nat, c / 13 % (((de s).length : Int) + (xs.length : Int)) = n ∧ n < (de s).length + xs.length := y4 (c / 13) _ hp
    rw [e]
    refine oM xa fun b hb => ?_
    rw [oK _ (i1 n), ← List.map_take, i2]
    refine kr q (g3.upd hb) (an _ _ _) rfl (Nat.le_trans (List.length_take_le' _ _) h8) (fun x hx => h14 x (List.mem_of_mem_take hx)) ?_
    rcases Nat.lt_or_ge n (de s).length with hlt | hge
    ·rw [List.take_append_of_le_length hlt]
     exact ze (Nat.lt_of_lt_of_le hlt hu.1)
    ·rw [List.take_append, List.take_of_length_le (Nat.le_succ_of_le hge)]
     exact p4 (tW (fun x hx' => hx x (List.mem_of_mem_take hx')) (by rw [List.length_take]; exact Nat.lt_min.mpr ⟨Nat.sub_pos_of_lt (Nat.lt_succ_of_le hge), hx1⟩) (Nat.le_trans (List.length_take_le' _ _) hf.1))
   ·rw [if_neg h13]
    exact kr q g3 xa rfl h8 h14 (p4 xl)
 ·rw [if_neg h5]
  have e : de s = [] := by unfold de; rw [if_neg h5]
  have := p4 xl
  rw [e, List.nil_append] at this
  exact kr q g1 hx1 mw (Nat.le_trans hf.1 (by decide)) hf.2 this
inductive DbI (s : Int) (w : Addr) (m₀ : aU) (σ₀ : ag) (i : Nat) (m : aU) (σ' : ag) : Prop
 | mk (dl : List V) (l : dl.length = i) (h : ∀ d ∈ dl, Deed (KS s) d) (I : Kl w (.list dl) ["_law_j", "_law_mixed", "_law_path"] m₀ σ₀ m σ') : DbI s w m₀ σ₀ i m σ'
theorem vm (ns : List Int) : ∀ vs σ Q, sp__law_deeds_by ns vs σ Q → vs.length = 3 ∧ cz ns (aG ["_law_cell", "_law_tree", "_law_shift"] vs aN) σ (fin Q) := by
 rintro vs σ Q ⟨c, a, s, kvs, ep, rfl, xa, q⟩
 refine ⟨rfl, ?_⟩
 unfold cz
 rw [am]
 simp [d5]
 intro w hw
 have haw : a ≠ w := by rintro rfl; rw [xa] at hw; cases hw
 have g0 : Grow σ (a8 σ w (.list [])) := Grow.refl.upd hw
 have xw := an σ w (.list [])
 generalize (a8 σ w (.list [])) = σ₁ at g0 xw ⊢
 show aq _ _ _ _ _
 rw [am]
 simp [d4]
 refine ⟨(zP c 3 (by decide) (by decide)).1, ?_⟩
 refine a5 (fun i m σ' => DbI s w _ σ₁ i m σ') (fun _ _ _ => False) (fun _ _ _ _ => trivial) _ ?_ ?_ (fun _ _ _ h => h.elim) _ _ ⟨[], rfl, fun _ h => (nomatch h), fun _ _ e _ => e, xw, fun _ _ => rfl⟩
 ·rintro i v m σ' Q' hv ⟨dl, hl, hd, I⟩ n1 n2 n3
  obtain ⟨hi, rfl⟩ := dB hv
  have hi3 : i < 3 := Nat.lt_of_lt_of_le hi (w8 c 3 (by decide)).2.1
  have mw : m "_law_deeds" = some (.ref w) := (I.m _ (by decide)).trans rfl
  have mc : m "_law_cell" = some (.int c) := (I.m _ (by decide)).trans rfl
  have mt : m "_law_tree" = some (.ref a) := (I.m _ (by decide)).trans rfl
  have ms : m "_law_shift" = some (.int s) := (I.m _ (by decide)).trans rfl
  refine ⟨_, rfl, ?_⟩
  rw [am]
  simp [mc]
  refine ⟨.inl (by unfold f9; decide), .inr (by unfold f9; decide), ?_⟩
  generalize (c + 1000003 * ((i : Int) + 1)) * 48271 % 131071 = mx
  rw [am]
  simp [ms]
  refine ⟨mx, s, rfl, fun x σ₂ g2 hx => ?_⟩
  have h2 := g2 _ _ I.x
  have ya : σ₂ a = some (.dict kvs ep) := g2 _ _ (I.k _ _ (g0 _ _ xa) haw)
  have add : ∀ (d : V) (m' : aU), Deed (KS s) d → (∀ y, y ∉ ["_law_j", "_law_mixed", "_law_path"] → m' y = m y) → bg [.ref w, d] σ₂ fun _ σ'' => Q' .next m' σ'' := fun d m' hD hm =>
   cm h2 (by exact oj fun hg => lN [(dl.length), i] 0x900000028423084a309481 rfl (Nat.le_of_eq hl) hi3 hg) (n1 _ _ ⟨dl ++ [d], by rw [List.length_append, hl]; rfl, fun y hy => (List.mem_append.mp hy).elim (hd y) fun e => by rw [List.mem_singleton.mp e]; exact hD, ⟨fun z oz e hz => by rw [aI hz]; exact g2 _ _ (I.k z oz e hz), an _ _ _, fun y hy => (hm y hy).trans (I.m y hy)⟩⟩)
  have hm : ∀ y, y ∉ ["_law_j", "_law_mixed", "_law_path"] → put (put (put m "_law_j" (.int (i : Int))) "_law_mixed" (.int mx)) "_law_path" (.str x) y = m y := fun y hy => by
   rw [aE hy (by decide), aE hy (by decide), aE hy (by decide)]
  have cutd := add (uF x) _ (.cut x hx) hm
  have putd := fun u => add (pS (x, u)) _ (.put x u hx) hm
  rw [am]
  simp [mt]
  refine cM ya ?_
  cases (cX kvs x).isSome with
  | false =>
   simp
   rw [am]
   simp [mw, ms, bX h2]
   exact putd _
  | true =>
   simp
   split
   ·rw [am]
    simp [mw, bX h2]
    exact cutd
   ·rw [am]
    simp [mw, ms, bX h2]
    exact putd _
 ·rintro m σ' ⟨dl, hl, hd, I⟩
  rw [cY] at hl
  have mw : m "_law_deeds" = some (.ref w) := (I.m _ (by decide)).trans rfl
  rw [bi, am]
  simp [dZ, mw]
  exact q dl (hl ▸ (w8 c 3 (by decide)).2.1) hd w σ' (I.grow hw g0) hw I.x
end Mine
end
noncomputable section
set_option tactic.hygienic false
set_option maxHeartbeats 1000000
namespace Mine
open PySem PySem.W PyProof.Rows PySem.Calls
theorem Road.first {ps : List (List Int)} {e n : Int} {r : List Int} (h : Road ps e n r) : r[0]? = some e := by
 induction h with
 | one => rfl
 | @more n p r l _ _ _ ih =>
  have : 0 < r.length := (List.getElem?_eq_some_iff.mp ih).1
  rw [List.getElem?_append_left this]; exact ih
theorem Road.last {ps : List (List Int)} {e n : Int} {r : List Int} (h : Road ps e n r) : ∃ s, r = s ++ [n] := by
 cases h with
 | one => exact ⟨[], rfl⟩
 | more _ _ _ => exact ⟨_, rfl⟩
theorem Road.step {ps : List (List Int)} {e n : Int} {r : List Int} (h : Road ps e n r) : ∀ (k : Nat) x y, r[k]? = some x → r[k + 1]? = some y → ∃ l, ps[y.toNat]? = some l ∧ x ∈ l := by
 induction h with
 | one => intro k x y _ h; simp at h
 | @more n p r l hr h1 h2 ih =>
  intro k x y hx hy
  rcases Nat.lt_or_ge (k + 1) r.length with hk | hk
  ·rw [List.getElem?_append_left (Nat.lt_of_succ_lt hk)] at hx
   rw [List.getElem?_append_left hk] at hy
   exact ih k x y hx hy
  ·rw [List.getElem?_append_right hk] at hy
   have hk2 : k + 1 - r.length = 0 := by
    have := (List.getElem?_eq_some_iff.mp hy).1
    simpa using this
   rw [hk2] at hy
   simp at hy
   subst hy
   obtain ⟨s, rfl⟩ := hr.last
   have hks : k = s.length := by simp at hk hk2; exact Nat.le_antisymm (dK fun hg => lN [(s.length), k, (k - s.length)] 0x520c24300a1004c1 rfl (Nat.le_of_eq hk2) (dE (k) (s.length)) hg) (dK fun hg => lN [(s.length), k] 0x10a309481 rfl hk hg)
   subst hks
   simp at hx
   subst hx
   exact ⟨l, h1, h2⟩
theorem Road.low {ps : List (List Int)} (o : Ord ps) {e n : Int} {r : List Int} (h : Road ps e n r) (e0 : 0 ≤ e) : 0 ≤ n ∧ ∀ x ∈ r, 0 ≤ x ∧ x ≤ n := by
 induction h with
 | one => exact ⟨e0, fun x hx => by rw [List.mem_singleton.mp hx]; exact ⟨e0, Int.le_refl _⟩⟩
 | @more n p r l _ h1 h2 ih =>
  have hp := o.lt _ _ h1 p h2
  have hn : 0 ≤ n ∧ p < n := by
   rcases Int.lt_or_le n 0 with hn | hn
   ·rw [Int.toNat_of_nonpos (Int.le_of_lt hn)] at hp
    exact absurd hp.2 (Int.not_lt.mpr hp.1)
   ·rw [Int.toNat_of_nonneg hn] at hp; exact ⟨hn, hp.2⟩
  refine ⟨hn.1, fun x hx => ?_⟩
  rcases List.mem_append.mp hx with hx | hx
  ·have := ih.2 x hx; exact ⟨this.1, Int.le_trans this.2 (Int.le_of_lt hn.2)⟩
  ·rw [List.mem_singleton.mp hx]; exact ⟨hn.1, Int.le_refl _⟩
theorem rJ (ns : List Int) : ∀ vs σ Q, sp__law_is_road ns vs σ Q → vs.length = 4 ∧ cQ ns (aG ["_law_book", "_law_road", "_law_elder", "_law_number"] vs aN) σ (fin Q) := by
 rintro vs σ Q ⟨K, b, t, mo, ads, ts, ps, r, e, n, row, rfl, B, xr, hR, e0, n0, n1, hlen, q⟩
 refine ⟨rfl, ?_⟩
 have ho := B.ord
 have few := ho.few
 have hf := hR.first
 have hpos : 0 < row.length := (List.getElem?_eq_some_iff.mp hf).1
 obtain ⟨s, hs⟩ := hR.last
 have hlow := (hR.low ho e0).2
 unfold cQ
 rw [am]
 simp [eN, ud xr, dg xr]
 rw [if_neg (by rintro rfl; simp at hpos)]
 refine co xr (Int.le_refl 0) (v := .int e) (by rw [List.getElem?_map]; show row[0]?.map _ = _; rw [hf]; rfl) ?_
 simp
 refine i4 (xs := s.map V.int) (v := .int n) (by rw [xr, hs, List.map_append]; rfl) ?_
 simp
 rw [am]
 simp [eM, dg xr]
 refine ⟨by omega, ?_⟩
 refine a5 (fun i m σ' => Gk True ["_law_k"] _ σ m σ' ∧ σ' = σ) (fun _ _ _ => False)
  (fun _ _ _ _ => trivial) _ ?_ ?_ (fun _ _ _ h => h.elim) _ _ ⟨⟨Grow.refl, fun _ _ => rfl, trivial⟩, rfl⟩
 ·rintro i v m σ' Q' hv ⟨I, rfl⟩ q1 q2 q3
  have mr : m "_law_road" = some (.ref r) := (I.m _ (by decide)).trans rfl
  have mb : m "_law_book" = some (.ref b) := (I.m _ (by decide)).trans rfl
  obtain ⟨hi, rfl⟩ := dB hv
  refine ⟨_, rfl, ?_⟩
  have hi1 : i + 1 < row.length := by exact oj fun hg => lN [(row.length), i, (row.length - 1)] 0x28c812186131461 rfl hi (dj (dK fun hg => lN [(row.length)] 0x42120c2400461 rfl hpos hg)) hg
  obtain ⟨x, hx⟩ : ∃ x, row[i]? = some x := ⟨_, List.getElem?_eq_getElem (Nat.lt_of_succ_lt hi1)⟩
  obtain ⟨y, hy⟩ : ∃ y, row[i + 1]? = some y := ⟨_, List.getElem?_eq_getElem hi1⟩
  obtain ⟨l, l1, l2⟩ := hR.step i x y hx hy
  have hy2 := hlow y (List.mem_of_getElem? hy)
  have k1 : ((1 : Int) + (i : Int)).toNat = i + 1 := by exact Nat.add_comm _ _
  have k0 : ((1 : Int) + (i : Int) - 1).toNat = i := by omega
  simp [am, mr, mb]
  refine co xr (by omega) (v := .int x) (by rw [k0, List.getElem?_map, hx]; rfl) ?_
  simp [bh B]
  refine co xr (by exact Int.natCast_nonneg _) (v := .int y) (by rw [k1, List.getElem?_map, hy]; rfl) ?_
  refine ⟨K, b, t, mo, ads, ts, ps, y, l, rfl, B, hy2.1, l1, ?_⟩
  refine ⟨true, by rw [lh]; simpa using l2, ?_⟩
  simp
  exact q1 _ _ ⟨⟨Grow.refl, fun z hz => (aE hz (by decide)).trans (I.m z hz), trivial⟩, rfl⟩
 ·rintro m σ' ⟨I, rfl⟩
  rw [bi, am]
  simp [eK]
  exact q
theorem qM {wu mu tu wx mx tx : Option Str} (h1 : wu = Option.none ∨ wx = Option.none) (h2 : mu = Option.none ∨ mx = Option.none) (h3 : tu = Option.none ∨ tx = Option.none) (hu : bI wu mu tu ≠ Option.none) (hx : bI wx mx tx ≠ Option.none) : wu = Option.none := by
 rcases h1 with h | h
 ·exact h
 subst h
 by_cases hw : wu = Option.none
 ·exact hw
 exfalso
 rcases h2 with h | h
 ·subst h
  apply hu
  unfold bI
  split
  ·rfl
  ·rw [if_neg (Ne.symm hw)]
 ·subst h
  rcases h3 with h | h
  ·subst h
   apply hu
   unfold bI dL
   by_cases hm : mu = wu
   ·simp [hm]
   ·by_cases hn : mu = Option.none
    ·simp [hn]
    ·simp [hm, hn, Ne.symm hw]
  ·subst h
   apply hx
   unfold bI dL
   simp
theorem u9 {mu tu mx tx : Option Str} (h2 : mu = Option.none ∨ mx = Option.none) (h3 : tu = Option.none ∨ tx = Option.none) (hu : bI Option.none mu tu ≠ Option.none) (hx : bI Option.none mx tx ≠ Option.none) : (mu = Option.none ∧ tu ≠ Option.none ∧ mx ≠ Option.none ∧ tx = Option.none) ∨ (mu ≠ Option.none ∧ tu = Option.none ∧ mx = Option.none ∧ tx ≠ Option.none) := by
 have none2 : bI Option.none Option.none Option.none = Option.none := by unfold bI dL; simp
 rcases h2 with h | h
 ·subst h
  have ht : tu ≠ Option.none := by rintro rfl; exact hu none2
  have ht' := h3.resolve_left ht
  subst ht'
  exact .inl ⟨rfl, ht, by rintro rfl; exact hx none2, rfl⟩
 ·subst h
  have ht : tx ≠ Option.none := by rintro rfl; exact hx none2
  have ht' := h3.resolve_right ht
  subst ht'
  exact .inr ⟨by rintro rfl; exact hu none2, rfl, rfl, ht⟩
theorem apart {K : List Str} {kvs : List (Str × V)} (t : Inn K kvs) {u x : Str} (h : Txt.startswith x (u ++ Str.ofString "/") = true) : gS kvs u = Option.none ∨ gS kvs x = Option.none := by
 by_cases hu : u ∈ keysOf kvs
 ·by_cases hx : x ∈ keysOf kvs
  ·rw [t.fre x hx u hu] at h; cases h
  ·exact .inr (bL hx)
 ·exact .inl (bL hu)
theorem gi {K : List Str} {kvs : List (Str × V)} (t : In0 K kvs) (x : Str) : (cX kvs x).isSome = (gS kvs x).isSome := by
 by_cases hx : x ∈ keysOf kvs
 ·obtain ⟨y, h1, h2⟩ := ul t hx
  rw [h1, h2]; rfl
 ·rw [bL hx, mQ hx]; rfl
theorem gN {ns : List Int} {l : List Str} {i : Nat} {x : Str} {σ : ag} {Q : V → ag → Prop} (hl : l.length ≤ 2) (h : l[i]? = some x) (q : Q (.str x) σ) : aL ns (cT l) (.int (i : Int)) σ Q :=
 ⟨by rw [List.length_map]; exact Nat.lt_of_le_of_lt hl (by decide), i, .str x, m7 (Int.natCast_nonneg _) (by rw [Int.toNat_natCast, List.length_map]; exact (List.getElem?_eq_some_iff.mp h).1), by rw [List.getElem?_map, h]; rfl, q⟩
theorem w7 (ns : List Int) : ∀ vs σ Q, sp__law_both_changed ns vs σ Q → vs.length = 4 ∧ bM ns (aG ["_law_clash", "_law_elder", "_law_one", "_law_other"] vs aN) σ (fin Q) := by
 rintro vs σ Q ⟨K, a, b, c, ka, kb, kc, e1, e2, e3, l, rfl, d, hl, q⟩
 refine ⟨rfl, ?_⟩
 unfold bM
 rw [am]
 rcases List.mem_append.mp hl with h | h
 ·obtain ⟨x, hx, rfl⟩ := List.mem_map.mp h
  have hc := (List.mem_filter.mp hx).2
  unfold dL at hc
  rw [Bool.and_eq_true, Bool.and_eq_true] at hc
  obtain ⟨⟨c1, c2⟩, c3⟩ := hc
  have item : ∀ {Q' : V → ag → Prop} {σ' : ag}, Q' (.str x) σ' → aL ns (cT [x]) (.int 0) σ' Q' := fun q => gN (i := 0) (Nat.le_succ 1) rfl q
  simp [cb]
  rw [am]
  simp
  refine ⟨by rw [cA d.xa]; trivial, item (cC d.xa d.ta.i0 ?_).2⟩
  rw [am]
  simp
  refine ⟨by rw [cA d.xb]; trivial, item (cC d.xb d.tb.i0 ?_).2⟩
  rw [am]
  simp
  have n1 : ¬ gS kb x = gS kc x := by simpa using c1
  have n2 : ¬ gS kb x = gS ka x := by simpa using c2
  have n3 : ¬ gS kc x = gS ka x := by simpa using c3
  simp [n2]
  refine ⟨by rw [cA d.xc]; trivial, item (cC d.xc d.tc.i0 ?_).2⟩
  simp [n3]
  refine ⟨by rw [cA d.xc]; trivial, item (cC d.xc d.tc.i0 ?_).2⟩
  simp [n1]
  exact q
 ·obtain ⟨x, hx, h⟩ := List.mem_flatMap.mp h
  obtain ⟨u, hu, rfl⟩ := List.mem_map.mp h
  obtain ⟨hu1, hu2⟩ := List.mem_filter.mp hu
  have hb := (jc u x).mp hu1
  obtain ⟨_, yu, su⟩ := gE.mp (of_decide_eq_true hu2)
  obtain ⟨_, yx, sx⟩ := gE.mp hx
  have su' : bI (gS ka u) (gS kb u) (gS kc u) ≠ Option.none := by rw [su]; simp
  have sx' : bI (gS ka x) (gS kb x) (gS kc x) ≠ Option.none := by rw [sx]; simp
  have pa := apart d.ta hb
  have pb := apart d.tb hb
  have pc := apart d.tc hb
  have wu := qM pa pb pc su' sx'
  have wx := qM pa.symm pb.symm pc.symm sx' su'
  rw [wu] at su'
  rw [wx] at sx'
  have pp := u9 pb pc su' sx'
  have hux : (gS kb u).isSome = (gS kc x).isSome ∧ (gS kb x).isSome = (gS kc u).isSome ∧ (gS kb u).isSome = !(gS kb x).isSome := by
   rcases pp with ⟨h1, h2, h3, h4⟩ | ⟨h1, h2, h3, h4⟩
   ·rw [h1, h4, Option.isSome_iff_ne_none.mpr h2, Option.isSome_iff_ne_none.mpr h3]; exact ⟨rfl, rfl, rfl⟩
   ·rw [h2, h3, Option.isSome_iff_ne_none.mpr h1, Option.isSome_iff_ne_none.mpr h4]; exact ⟨rfl, rfl, rfl⟩
  simp [cb]
  rw [am]
  simp [cW]
  have each : ∀ (z : Str) (m' : aU) (Q' : Fl → aU → ag → Prop), gS ka z = Option.none → (gS kb z).isSome = !(gS kc z).isSome → m' "_law_path" = some (.str z) → m' "_law_elder" = some (.ref a) → m' "_law_one" = some (.ref b) → m' "_law_other" = some (.ref c) → Q' .next m' σ →
    (aq (dP (iP (aJ (ax cG (ae "_law_path") (ae "_law_elder"))) (iP (aJ (ax br (ax cG (ae "_law_path") (ae "_law_one")) (ax cG (ae "_law_path") (ae "_law_other")))) tF)) (aq (bo (az (.bool false))) ar) ar) ar) m' σ Q' := by
   intro z m' Q' hz hs z1 z2 z3 z4 q'
   rw [am]
   simp [z1, z2, z3, z4]
   refine cM d.xa ?_
   rw [gi d.ta.i0, hz]
   simp
   refine cM d.xb ?_
   refine cM d.xc ?_
   rw [gi d.tb.i0, gi d.tc.i0, hs]
   cases (gS kc z).isSome <;> simp <;> exact q'
  refine ⟨trivial, _, rfl, each u _ _ wu (by rw [hux.2.2, hux.2.1]) rfl rfl rfl rfl ?_⟩
  refine ⟨trivial, _, rfl, each x _ _ wx (by rw [← hux.1, hux.2.2, Bool.not_not]) rfl rfl rfl rfl ?_⟩
  refine ⟨trivial, ?_⟩
  rw [bi, am]
  simp [cV]
  refine gN (i := 0) (Nat.le_refl 2) rfl ?_
  refine cM d.xb ?_
  refine gN (i := 1) (Nat.le_refl 2) rfl ?_
  refine cM d.xb ?_
  rw [gi d.tb.i0, gi d.tb.i0, hux.2.2]
  have hlast : aL ns (cT [u, x]) (.int 1) σ fun v σ₁ => ej v σ₁ ∧ aL ns (cT [u, x]) (.int 0) σ₁ fun w σ₂ => b0 w (.str (Str.ofString "/")) σ₂ fun z σ₃ => dF [v, z] σ₃ Q := by
   refine gN (i := 1) (Nat.le_refl 2) rfl ⟨trivial, ?_⟩
   refine gN (i := 0) (Nat.le_refl 2) rfl ?_
   rw [wg]
   refine ⟨?_, ?_⟩
   ·have := d.un.len u (d.key (gE.mp (of_decide_eq_true hu2)).1)
    rw [ee]; omega
   ·rw [pG, hb]; exact q
  cases (gS kb x).isSome <;> simp <;> exact hlast
end Mine
end
noncomputable section
set_option tactic.hygienic false
set_option maxHeartbeats 1000000
namespace Mine
open PySem PySem.W PyProof.Rows PySem.Calls
theorem pE {f : List (Str × V)} {k : Str} {v : V} : (k, v) ∈ bb f k v := by
 unfold bb
 split
 ·rename_i h
  obtain ⟨q, h1, h2⟩ := List.any_eq_true.mp h
  have h2 : q.1 = k := by simpa using h2
  exact List.mem_map.mpr ⟨q, h1, by rw [if_pos h2, h2]⟩
 ·exact List.mem_append_right _ (List.mem_singleton.mpr rfl)
theorem nV {f : List (Str × V)} {k : Str} {v : V} {q : Str × V} (h : q ∈ f) (hk : q.1 ≠ k) : q ∈ bb f k v := by
 unfold bb
 split
 ·exact List.mem_map.mpr ⟨q, h, by rw [if_neg hk]⟩
 ·exact List.mem_append_left _ h
section
variable {K : List Str} {f pk : List (Str × V)} {x k t : Str}
theorem q7 (h : In0 K f) (hm : (x, V.str t) ∈ f) : gS f x = some t := by
 obtain ⟨v, h1, h2⟩ := dc (show x ∈ f.map (·.1) from List.mem_map.mpr ⟨_, hm, rfl⟩)
 cases ik h.nodup h2 hm
 unfold gS; rw [h1]
theorem um (h : In0 K f) (hx : x ∈ keysOf f) : ∃ y, (x, V.str y) ∈ f ∧ gS f x = some y := by
 obtain ⟨v, h1, h2⟩ := dc (show x ∈ f.map (·.1) from hx)
 obtain ⟨y, hy⟩ := h.val _ h2
 have hy : v = .str y := hy
 subst hy
 exact ⟨y, h2, by unfold gS; rw [h1]⟩
theorem xD (h : In0 K f) (hk : k ∈ K) : gS (bb f k (.str t)) x = if x = k then some t else gS f x := by
 by_cases e : x = k
 ·subst e; rw [if_pos rfl]; exact q7 (h.put hk) pE
 ·rw [if_neg e]
  by_cases hx : x ∈ keysOf f
  ·obtain ⟨y, h1, h2⟩ := um h hx
   rw [h2]; exact q7 (h.put hk) (nV h1 e)
  ·rw [bL hx]; exact bL fun z => ((bW _ _ _ x).mp z).elim e hx
theorem xE (h : In0 K f) : gS (fw f k) x = if x = k then Option.none else gS f x := by
 by_cases e : x = k
 ·subst e; rw [if_pos rfl]; exact bL fun z => ((ei _ _ _).mp z).1 rfl
 ·rw [if_neg e]
  by_cases hx : x ∈ keysOf f
  ·obtain ⟨y, h1, h2⟩ := um h hx
   rw [h2]; exact q7 h.cut (List.mem_filter.mpr ⟨h1, by simpa using e⟩)
  ·rw [bL hx]; exact bL fun z => hx ((ei _ _ _).mp z).2
theorem uk (h : In0 K f) (hk : k ∈ K) (o : Option Str) : In0 K (ib f (k, eg o)) ∧ gS (ib f (k, eg o)) x = if x = k then o else gS f x := by
 cases o with
 | none => exact ⟨h.cut, xE h⟩
 | some t => exact ⟨h.put hk, xD h hk⟩
end
theorem q6 {K : List Str} : ∀ {pk f : List (Str × V)} (h : In0 K f) (hk : ∀ x ∈ keysOf pk, x ∈ K) (hP : Pk pk) (x : Str), (x ∉ keysOf pk → gS (bp f pk) x = gS f x) ∧ ∀ o, (x, eg o) ∈ pk → gS (bp f pk) x = o
 | [], f, h, hk, hP, x => ⟨fun _ => rfl, fun _ h => (nomatch h)⟩
 | (k, v) :: r, f, h, hk, hP, x => by
  obtain ⟨o, ho⟩ := hP.val _ (.head _)
  have ho : v = eg o := ho
  subst ho
  have hn := List.nodup_cons.mp hP.nodup
  have h1 := uk (x := x) h (hk k (.head _)) o
  have ih := q6 (pk := r) (f := ib f (k, eg o)) h1.1 (fun y hy => hk y (.tail _ hy)) ⟨fun q hq => hP.val q (.tail _ hq), hn.2⟩ x
  show (x ∉ _ → gS (bp (ib f (k, eg o)) r) x = _) ∧ ∀ o', _ → gS (bp (ib f (k, eg o)) r) x = _
  refine ⟨fun hx => ?_, fun o' hm => ?_⟩
  ·rw [ih.1 fun e => hx (.tail _ e), h1.2, if_neg (fun e : x = k => hx (by rw [e]; exact .head _))]
  ·rcases List.mem_cons.mp hm with e | e
   ·have e1 : x = k := congrArg Prod.fst e
    have e2 : eg o' = eg o := congrArg Prod.snd e
    subst e1
    rw [ih.1 hn.1, h1.2, if_pos rfl]
    cases o <;> cases o' <;> first | rfl | (cases e2; done) | (cases e2; rfl)
   ·exact ih.2 o' e
theorem zo {K : List Str} {σ : ag} {a b c : Addr} {ka kb kc : List (Str × V)} {e1 e2 e3 : Nat} (d : D3 K a b c ka kb kc e1 e2 e3 σ) (x : Str) : gS (eP ka kb kc) x = bI (gS ka x) (gS kb x) (gS kc x) := by
 by_cases hx : x ∈ di ka kb kc
 ·cases e : bI (gS ka x) (gS kb x) (gS kc x) with
  | none => exact bL fun h => by obtain ⟨_, y, h2⟩ := gE.mp h; rw [e] at h2; cases h2
  | some y => exact q7 d.st0 (List.mem_filterMap.mpr ⟨x, hx, by rw [e]; rfl⟩)
 ·have h : ∀ {k : List (Str × V)}, (∀ z ∈ keysOf k, z ∈ di ka kb kc) → gS k x = Option.none := fun h => bL fun z => hx (h x z)
  have mem : ∀ z, z ∈ di ka kb kc ↔ (z ∈ keysOf ka ∨ z ∈ keysOf kb) ∨ z ∈ keysOf kc := fun z => by unfold di; rw [mT, ch, List.mem_append, List.mem_append]
  rw [h fun z hz => (mem z).mpr (.inl (.inl hz)), h fun z hz => (mem z).mpr (.inl (.inr hz)), h fun z hz => (mem z).mpr (.inr hz), bL fun z => hx (gE.mp z).1]
  unfold bI dL
  simp
theorem xT {a b c : List (Str × V)} {x : Str} (h : dL (gS a x) (gS b x) (gS c x) = true) : x ∈ kZ a b c := by
 refine List.mem_filter.mpr ⟨?_, h⟩
 unfold di
 rw [mT, ch, List.mem_append, List.mem_append]
 by_cases hb : x ∈ keysOf b
 ·exact .inl (.inr hb)
 ·by_cases ha : x ∈ keysOf a
  ·exact .inl (.inl ha)
  ·unfold dL at h
   rw [bL ha, bL hb] at h
   simp at h
theorem rt (o : Option Str) : lS (eg o) = o.isNone := by cases o <;> rfl
theorem uq {K ks : List Str} (hK : Kp K) (h : ∀ x ∈ ks, x ∈ K) : (uniq ks).length < 64 := Nat.lt_of_le_of_lt (Nat.le_trans (dC (cg ks) fun x hx => h x (ch.mp hx)) hK.few) (by decide)
theorem s9 (ns : List Int) : ∀ vs σ Q, sp__law_stands ns vs σ Q → vs.length = 5 ∧ db ns (aG ["_law_made", "_law_elder", "_law_one", "_law_other", "_law_picks"] vs aN) σ (fin Q) := by
 rintro vs σ Q ⟨K, a, b, c, ka, kb, kc, e1, e2, e3, p, pk, ep, dm, ed, rfl, d, xp, hP, hpk, xm, ho, q⟩
 refine ⟨rfl, ?_⟩
 have inn := ho.inn d hpk
 have hgp := fun x => q6 d.st0 hpk hP x
 generalize hmk : bp (eP ka kb kc) pk = km at xm inn hgp
 have la := d.ta.i0.len d.un
 have lb := d.tb.i0.len d.un
 have lc := d.tc.i0.len d.un
 have lm := inn.i0.len d.un
 have new : ∀ {s : ag} {o : AObj} {r : Addr}, Grow σ s → s r = Option.none → Grow σ (a8 s r o) := fun g h => g.upd h
 unfold db
 rw [am]
 simp [fp, eW xm]
 intro r1 h1
 have g1 : Grow σ (a8 σ r1 (.list (km.map fun q => .str q.1))) := Grow.refl.upd h1
 have x1 := an σ r1 (.list (km.map fun q => .str q.1))
 generalize (a8 σ r1 (.list (km.map fun q => .str q.1))) = σ₁ at g1 x1 ⊢
 simp [eW (g1 _ _ d.xa)]
 intro r2 h2
 have g2 := g1.upd (o := .list (ka.map fun q => .str q.1)) h2
 have x2 := an σ₁ r2 (.list (ka.map fun q => .str q.1))
 have x1' : a8 σ₁ r2 (.list (ka.map fun q => .str q.1)) r1 = _ := (Grow.refl.upd h2) _ _ x1
 generalize (a8 σ₁ r2 (.list (ka.map fun q => .str q.1))) = σ₂ at g2 x2 x1' ⊢
 refine iw x1' x2 (by rw [List.length_map, List.length_map]; exact dK fun hg => lN [(ka.length), (km.length)] 0x8504000000a1186410943208481 rfl la lm hg) fun r3 h3 => ?_
 have g3 := g2.upd (o := .list ((km.map fun q => .str q.1) ++ ka.map fun q => .str q.1)) h3
 have x3 := an σ₂ r3 (.list ((km.map fun q => .str q.1) ++ ka.map fun q => .str q.1))
 generalize (a8 σ₂ r3 (.list ((km.map fun q => .str q.1) ++ ka.map fun q => .str q.1))) = σ₃ at g3 x3 ⊢
 simp [eW (g3 _ _ d.xb)]
 intro r4 h4
 have g4 := g3.upd (o := .list (kb.map fun q => .str q.1)) h4
 have x4 := an σ₃ r4 (.list (kb.map fun q => .str q.1))
 have x3' : a8 σ₃ r4 (.list (kb.map fun q => .str q.1)) r3 = _ := (Grow.refl.upd h4) _ _ x3
 generalize (a8 σ₃ r4 (.list (kb.map fun q => .str q.1))) = σ₄ at g4 x4 x3' ⊢
 refine iw x3' x4 (by rw [List.length_append, List.length_map, List.length_map, List.length_map]; exact dK fun hg => lN [(ka.length), (kb.length), (km.length)] 0x52180080000014230c821306410943208481 rfl la lb lm hg) fun r5 h5 => ?_
 have g5 := g4.upd (o := .list (((km.map fun q => .str q.1) ++ ka.map fun q => .str q.1) ++ kb.map fun q => .str q.1)) h5
 have x5 := an σ₄ r5 (.list (((km.map fun q => .str q.1) ++ ka.map fun q => .str q.1) ++ kb.map fun q => .str q.1))
 generalize (a8 σ₄ r5 (.list (((km.map fun q => .str q.1) ++ ka.map fun q => .str q.1) ++ kb.map fun q => .str q.1))) = σ₅ at g5 x5 ⊢
 simp [eW (g5 _ _ d.xc)]
 intro r6 h6
 have g6 := g5.upd (o := .list (kc.map fun q => .str q.1)) h6
 have x6 := an σ₅ r6 (.list (kc.map fun q => .str q.1))
 have x5' : a8 σ₅ r6 (.list (kc.map fun q => .str q.1)) r5 = _ := (Grow.refl.upd h6) _ _ x5
 generalize (a8 σ₅ r6 (.list (kc.map fun q => .str q.1))) = σ₆ at g6 x6 x5' ⊢
 refine iw x5' x6 (by rw [List.length_append, List.length_append, List.length_map, List.length_map, List.length_map, List.length_map]; exact dK fun hg => lN [(ka.length), (kb.length), (kc.length), (km.length)] 0x31487000100000028461904270c821306410943208481 rfl la lb lc lm hg) fun r7 h7 => ?_
 have ek : (((km.map fun q => V.str q.1) ++ ka.map fun q => .str q.1) ++ kb.map fun q => .str q.1) ++ (kc.map fun q => .str q.1) = (((keysOf km ++ keysOf ka) ++ keysOf kb) ++ keysOf kc).map V.str := by unfold keysOf; rw [List.map_append, List.map_append, List.map_append, List.map_map, List.map_map, List.map_map, List.map_map]; rfl
 rw [ek]
 have hks : ∀ x ∈ ((keysOf km ++ keysOf ka) ++ keysOf kb) ++ keysOf kc, x ∈ K := fun x hx => by
  rcases List.mem_append.mp hx with hx | hx
  ·rcases List.mem_append.mp hx with hx | hx
   ·rcases List.mem_append.mp hx with hx | hx
    ·exact inn.i0.sub x hx
    ·exact d.ta.i0.sub x hx
   ·exact d.tb.i0.sub x hx
  ·exact d.tc.i0.sub x hx
 have hkl : (((keysOf km ++ keysOf ka) ++ keysOf kb) ++ keysOf kc).length ≤ 4000 := by
  unfold keysOf
  rw [List.length_append, List.length_append, List.length_append, List.length_map, List.length_map, List.length_map, List.length_map]; exact dK fun hg => lN [(ka.length), (kb.length), (kc.length), (km.length)] 0xc521c0000fa018461904270c821306410943208481 rfl la lb lc lm hg
 generalize ((keysOf km ++ keysOf ka) ++ keysOf kb) ++ keysOf kc = ks at hks hkl ⊢
 have g7 := g6.upd (o := .list (ks.map V.str)) h7
 refine ⟨r7, rfl, ks, an _ _ _, hkl, uq d.un hks, fun l hl => ?_⟩
 have g8 := g7.upd (o := .list ((lF (uniq ks)).map .str)) hl
 have xl := an (a8 σ₆ r7 (.list (ks.map V.str))) l (.list ((lF (uniq ks)).map .str))
 generalize (a8 (a8 σ₆ r7 (.list (ks.map V.str))) l (.list ((lF (uniq ks)).map .str))) = τ at g8 xl ⊢
 clear g7 x6 x5' g6 x5 g5 x4 x3' g4 x3 g3 x2 x1' g2 x1 g1
 show gW ns (.ref l) τ _
 rw [bf xl]
 have dd := d.grow g8
 have xm' := g8 _ _ xm
 have xp' := g8 _ _ xp
 refine a5 (fun i m σ' => Gk True ["_law_path", "_law_was", "_law_left", "_law_right", "_law_due"] _ τ m σ' ∧ σ' = τ) (fun _ _ _ => False)
  (fun _ _ _ h => by rw [h.2]; exact xl) _ ?_ ?_ (fun _ _ _ h => h.elim) _ _ ⟨⟨Grow.refl, fun _ _ => rfl, trivial⟩, rfl⟩
 ·rintro i v m σ' Q' hv ⟨I, rfl⟩ n1 n2 n3
  obtain ⟨y, hy, rfl⟩ := dQ hv
  have mm : m "_law_made" = some (.ref dm) := (I.m _ (by decide)).trans rfl
  have me : m "_law_elder" = some (.ref a) := (I.m _ (by decide)).trans rfl
  have mo : m "_law_one" = some (.ref b) := (I.m _ (by decide)).trans rfl
  have mt : m "_law_other" = some (.ref c) := (I.m _ (by decide)).trans rfl
  have mp : m "_law_picks" = some (.ref p) := (I.m _ (by decide)).trans rfl
  refine ⟨_, rfl, ?_⟩
  have last : ∀ m' : aU, m' "_law_due" = some (eg (gS km y)) → m' "_law_path" = some (.str y) → (∀ z, z ∉ ["_law_path", "_law_was", "_law_left", "_law_right", "_law_due"] → m' z = m z) →
    (aq (dP (iP (aJ (ax cc (a6 bq cv (ae "_law_made") (ai (ae "_law_path") ay)) (ae "_law_due"))) (iP (aJ (ax cc (ax cG (ae "_law_path") (ae "_law_made")) (ax c9 (ae "_law_due") (az .none)))) tF)) (aq (bo (az (.bool false))) ar) ar) ar) m' σ' Q' := by
   intro m' z1 z2 z3
   have z4 : m' "_law_made" = some (.ref dm) := (z3 _ (by decide)).trans mm
   rw [am]
   simp [z1, z2, z4]
   refine cC xm' inn.i0 ?_
   simp
   refine cM xm' ?_
   rw [gi inn.i0, rt]
   have fin : Q' .next m' σ' := n1 _ _ ⟨⟨Grow.refl, fun z hz => (z3 z hz).trans (I.m z hz), trivial⟩, rfl⟩
   cases gS km y <;> simp <;> exact fin
  rw [am]
  simp only [mX, kR, kQ, ij, jQ]
  simp [me]
  refine cC dd.xa d.ta.i0 ?_
  rw [am]
  simp [mo]
  refine cC dd.xb d.tb.i0 ?_
  rw [am]
  simp [mt]
  refine cC dd.xc d.tc.i0 ?_
  rw [am]
  simp [mp]
  refine cM xp' ?_
  rw [bH]
  by_cases hyp : y ∈ keysOf pk
  ·have hyp' : y ∈ pk.map (·.1) := hyp
   obtain ⟨w, w1, w2⟩ := dc hyp'
   obtain ⟨o, hw⟩ := hP.val _ w2
   have hw : w = eg o := hw
   subst hw
   simp only [decide_eq_true hyp', dh, if_true]
   rw [am]
   simp [mp]
   refine i5 xp' w1 ?_
   refine last _ (by simp [(hgp y).2 o w2]) rfl fun z hz => by rw [aE hz (by decide), aE hz (by decide), aE hz (by decide), aE hz (by decide), aE hz (by decide)]
  ·have hyp' : y ∉ pk.map (·.1) := hyp
   simp only [decide_eq_false hyp', dh, Bool.false_eq_true, if_false]
   have hg : gS km y = bI (gS ka y) (gS kb y) (gS kc y) := ((hgp y).1 hyp).trans (zo d y)
   have nc : dL (gS ka y) (gS kb y) (gS kc y) = false := by
    cases e : dL (gS ka y) (gS kb y) (gS kc y) with
    | false => rfl
    | true => exact absurd (ho.cl y (xT e)) hyp
   have hs : gS km y = if gS kb y = gS ka y then gS kc y else gS kb y := by rw [hg]; unfold bI; rw [nc]; rfl
   have fin : ∀ o : Option Str, gS km y = o → (aq (dP (iP (aJ (ax cc (a6 bq cv (ae "_law_made") (ai (ae "_law_path") ay)) (ae "_law_due"))) (iP (aJ (ax cc (ax cG (ae "_law_path") (ae "_law_made")) (ax c9 (ae "_law_due") (az .none)))) tF)) (aq (bo (az (.bool false))) ar) ar) ar) (put (put (put (put (put m "_law_path" (.str y)) "_law_was" (eg (gS ka y))) "_law_left" (eg (gS kb y))) "_law_right" (eg (gS kc y))) "_law_due" (eg o)) σ' Q' := fun o ho =>
    last _ (by simp [ho]) (by simp) fun z hz => by rw [aE hz (by decide), aE hz (by decide), aE hz (by decide), aE hz (by decide), aE hz (by decide)]
   rw [am]
   simp
   by_cases c1 : gS kb y = gS kc y
   ·rw [if_pos c1, am]
    simp
    refine fin _ ?_
    rw [hs]
    by_cases e : gS kb y = gS ka y
    ·rw [if_pos e]; exact c1.symm
    ·rw [if_neg e]
   ·rw [if_neg c1]
    by_cases c2 : gS kc y = gS ka y
    ·rw [if_pos c2, am]
     simp
     refine fin _ (by rw [hs, if_neg fun e => c1 (e.trans c2.symm)])
    ·rw [if_neg c2, am]
     simp
     by_cases c3 : gS kb y = gS ka y
     ·rw [if_pos c3, am]
      simp
      exact fin _ (by rw [hs, if_pos c3])
     ·unfold dL at nc
      simp [c1, c2, c3] at nc
 ·rintro m σ' ⟨I, rfl⟩
  have mm : m "_law_made" = some (.ref dm) := (I.m _ (by decide)).trans rfl
  rw [bi, am]
  simp [fo, mm, cH xm']
  refine a5 (fun i m' s => Gk True ["_law_path", "_law_lower"] m σ' m' s ∧ s = σ') (fun _ _ _ => False)
   (fun _ _ _ h => by rw [h.2]; exact xm') _ ?_ ?_ (fun _ _ _ h => h.elim) _ _ ⟨⟨Grow.refl, fun _ _ => rfl, trivial⟩, rfl⟩
  ·rintro i v m' s Q' hv ⟨J, rfl⟩ n1 n2 n3
   obtain ⟨y, hy, rfl⟩ := gV hv
   have hyl := d.un.len y (inn.i0.sub y (List.mem_of_getElem? hy))
   refine ⟨_, rfl, ?_⟩
   rw [am]
   simp [(J.m "_law_made" (by decide)).trans mm, cH xm']
   refine a5 (fun j m₂ s₂ => Gk True ["_law_lower"] (put m' "_law_path" (.str y)) s m₂ s₂ ∧ s₂ = s) (fun _ _ _ => False)
    (fun _ _ _ h => by rw [h.2]; exact xm') _ ?_ ?_ (fun _ _ _ h => h.elim) _ _ ⟨⟨Grow.refl, fun _ _ => rfl, trivial⟩, rfl⟩
   ·rintro j v m₂ s₂ Q₂ hv ⟨L, rfl⟩ k1 k2 k3
    obtain ⟨z, hz, rfl⟩ := gV hv
    refine ⟨_, rfl, ?_⟩
    rw [am]
    simp [(L.m "_law_path" (by decide)).trans (by simp : put m' "_law_path" (V.str y) "_law_path" = some (V.str y))]
    refine ⟨by rw [ee]; exact Nat.lt_of_le_of_lt hyl (by decide), ?_⟩
    simp [inn.fre z (List.mem_of_getElem? hz) y (List.mem_of_getElem? hy)]
    exact k1 _ _ ⟨⟨Grow.refl, fun u hu => (aE hu (by decide)).trans (L.m u hu), trivial⟩, rfl⟩
   ·rintro m₂ s₂ ⟨L, rfl⟩
    rw [bi]
    simp
    exact n1 _ _ ⟨⟨Grow.refl, fun u hu => (L.m u fun e => hu (List.mem_cons_of_mem _ e)).trans ((aE hu (by decide)).trans (J.m u hu)), trivial⟩, rfl⟩
  ·rintro m' s ⟨J, rfl⟩
   rw [bi, am]
   simp [fm]
   exact q _ g8
end Mine
end
noncomputable section
set_option tactic.hygienic false
set_option maxHeartbeats 2000000
namespace Mine
open PySem PySem.W PyProof.Rows PySem.Calls
theorem jb (a b c : List (Str × V)) : di a b c = di a c b := nY (cg _) (cg _) fun z => by
 rw [ch, ch, List.mem_append, List.mem_append, List.mem_append, List.mem_append]
 exact ⟨fun h => h.elim (fun h => h.elim (fun h => .inl (.inl h)) .inr) fun h => .inl (.inr h), fun h => h.elim (fun h => h.elim (fun h => .inl (.inl h)) .inr) fun h => .inl (.inr h)⟩
theorem i6 (w m t : Option Str) : dL w m t = dL w t m := by
 unfold dL
 rw [Bool.and_assoc, Bool.and_comm (!decide (m = w)), ← Bool.and_assoc, show decide (m = t) = decide (t = m) from decide_eq_decide.mpr eq_comm]
theorem pH (w m t : Option Str) : bI w m t = bI w t m := by
 unfold bI
 rw [i6]
 split
 ·rfl
 ·rename_i h
  by_cases h1 : m = w
  ·by_cases h2 : t = w
   ·rw [if_pos h1, if_pos h2, h1, h2]
   ·rw [if_pos h1, if_neg h2]
  ·by_cases h2 : t = w
   ·rw [if_neg h1, if_pos h2]
   ·rw [if_neg h1, if_neg h2]
    by_cases h3 : t = m
    ·exact h3.symm
    ·exact absurd (by unfold dL; simp [h1, h2, h3]) h
theorem j7 (a b c : List (Str × V)) : eP a b c = eP a c b := by
 unfold eP
 rw [jb]
 exact congrArg (List.filterMap · _) (funext fun x => by rw [pH])
theorem pB (a b c : List (Str × V)) : ct a b c = ct a c b := by
 unfold ct
 rw [j7]
 refine congrArg (List.map _ · ++ _) ?_
 unfold kZ
 rw [jb]
 exact congrArg (List.filter · _) (funext fun x => i6 _ _ _)
theorem OkJ.turn {a b c pk : List (Str × V)} (o : OkJ a b c pk) : OkJ a c b pk := by
 refine ⟨fun x hx => ?_, fun x hx => ?_, ?_⟩
 ·rw [← pB]; exact o.known x hx
 ·refine o.cl x ?_
  unfold kZ at hx ⊢
  rw [jb, show (fun x => dL (gS a x) (gS b x) (gS c x)) = fun x => dL (gS a x) (gS c x) (gS b x) from funext fun x => i6 _ _ _]
  exact hx
 ·rw [← j7]; exact o.fre
theorem vy {a b c pk : List (Str × V)} (o : OkJ a b c pk) (h : pk = []) : ct a b c = [] := by
 subst h
 unfold ct
 have h1 : kZ a b c = [] := List.eq_nil_iff_forall_not_mem.mpr fun x hx => (nomatch o.cl x hx)
 have h2 : w9 (keysOf (eP a b c)) = [] := List.eq_nil_iff_forall_not_mem.mpr fun l hl => by
  obtain ⟨x, hx, h⟩ := List.mem_flatMap.mp hl
  obtain ⟨u, hu, rfl⟩ := List.mem_map.mp h
  exact o.fre x hx u (List.mem_filter.mp hu).1 (of_decide_eq_true (List.mem_filter.mp hu).2)
 rw [h1, h2]; rfl
theorem vD {a b c pk : List (Str × V)} (h : ct a b c = []) (hk : ∀ x ∈ keysOf pk, ∃ l ∈ ct a b c, x ∈ l) : OkJ a b c pk := by
 have hp : pk = [] := by
  cases pk with
  | nil => rfl
  | cons q r => obtain ⟨l, hl, _⟩ := hk q.1 (.head _); rw [h] at hl; cases hl
 subst hp
 have h1 := List.append_eq_nil_iff.mp h
 refine ⟨hk, fun x hx => ?_, fun x hx u hu huk => ?_⟩
 ·rw [List.map_eq_nil_iff.mp h1.1] at hx; cases hx
 ·have : [u, x] ∈ w9 (keysOf (eP a b c)) := List.mem_flatMap.mpr ⟨x, hx, List.mem_map.mpr ⟨u, List.mem_filter.mpr ⟨hu, decide_eq_true huk⟩, rfl⟩⟩
  rw [h1.2] at this; cases this
theorem Near.swap {ps : List (List Int)} {n m M : Int} (h : Near ps n m M) : Near ps m n M := ⟨h.a2, h.a1, fun z a b => h.max z b a⟩
theorem kC {ps : List (List Int)} (o : Ord ps) {N n M : Int} {l : List Int} (n0 : 0 ≤ n) (hl : ps[N.toNat]? = some l) (hm : n ∈ l) (h : Near ps N n M) : M = n :=
 Int.le_antisymm (h.a2.le o.lt n0).2 (h.max n (.up hl hm (.self n)) (.self n))
structure Jn (s : Int) (b t mo : Addr) (ads : List Addr) (ts : List (List (Str × V))) (ps : List (List Int)) (n k M : Int) (ke kn km : List (Str × V)) (d1 d2 d3 F : Addr) (e1 e2 e3 : Nat) (fs : List (List Str)) (m : aU) (σ : ag) : Prop where
 hfs : fs.Perm (ct ke kn km)
 B : BookAt (KS s) σ b t mo ads ts ps
 n0 : 0 ≤ n
 n1 : n < (ts.length : Int)
 k0 : 0 ≤ k
 k1 : k < (ts.length : Int)
 N : Near ps n k M
 he : ts[M.toNat]? = some ke
 hn : ts[n.toNat]? = some kn
 hk : ts[k.toNat]? = some km
 D : D3 (KS s) d1 d2 d3 ke kn km e1 e2 e3 σ
 xF : σ F = some (.list (fs.map cT))
 off : ∀ x ∈ [d1, d2, d3, F], x ∉ [t, mo]
 mb : m "_law_book" = some (.ref b)
 m1 : m "_law_one" = some (.int n)
 m2 : m "_law_other" = some (.int k)
 me : m "_law_elder" = some (.ref d1)
 ml : m "_law_left" = some (.ref d2)
 mr : m "_law_right" = some (.ref d3)
 mf : m "_law_found" = some (.ref F)
theorem sg {ns : List Int} {s : Int} {b t mo : Addr} {ads : List Addr} {ts : List (List (Str × V))} {ps : List (List Int)} {n k : Int} {m : aU} {σ : ag} {Q : V → ag → Prop} {N : Nat} (B : BookAt (KS s) σ b t mo ads ts ps) (hp : ps[N]? = some [min n k, max n k]) (hN : N < ts.length) (n0 : 0 ≤ n) (n1 : n < (N : Int)) (k0 : 0 ≤ k) (k1 : k < (N : Int))
  (mb : m "_law_book" = some (.ref b)) (m1 : m "_law_one" = some (.int n)) (m2 : m "_law_other" = some (.int k)) (mn : m "_law_number" = some (.int (N : Int))) (q : ∀ σ', Grow σ σ' → Q (.bool true) σ') :
  aq (bG ns) (aq (bF ns) ar) m σ (fin Q) := by
 have hpt : ps[((N : Nat) : Int).toNat]? = some [min n k, max n k] := by rw [Int.toNat_natCast]; exact hp
 have hNl : (N : Int) < (ts.length : Int) := Int.ofNat_lt.mpr hN
 rw [am]
 simp [bG, mb, m1, m2, mn, bh B]
 refine ⟨KS s, b, t, mo, ads, ts, ps, N, _, rfl, B, Int.natCast_nonneg _, hpt, ?_⟩
 try simp
 refine vF [min n k, max n k] ?_
 simp
 rw [am]
 simp [bF, mb, m1, m2, mn, bh B]
 have mem1 : n ∈ [min n k, max n k] := by
  rcases Int.le_total n k with h | h
  ·rw [Int.min_eq_left h]; exact .head _
  ·rw [Int.max_eq_left h]; exact .tail _ (.head _)
 have mem2 : k ∈ [min n k, max n k] := by
  rcases Int.le_total n k with h | h
  ·rw [Int.max_eq_right h]; exact .tail _ (.head _)
  ·rw [Int.min_eq_right h]; exact .head _
 refine ⟨KS s, b, t, mo, ads, ts, ps, N, n, rfl, B, Int.natCast_nonneg _, hNl, n0, Int.lt_trans n1 hNl, fun M σ₁ g1 h1 => ?_⟩
 cases kC B.ord n0 hpt mem1 h1
 have B1 := B.grow g1
 simp [bh B1]
 refine ⟨KS s, b, t, mo, ads, ts, ps, k, N, rfl, B1, k0, Int.lt_trans k1 hNl, Int.natCast_nonneg _, hNl, fun M σ₂ g2 h2 => ?_⟩
 cases kC B.ord k0 hpt mem2 h2.swap
 simp
 exact q _ (g1.trans g2)
theorem p8 {ns : List Int} {s : Int} {b t mo : Addr} {ads : List Addr} {ts : List (List (Str × V))} {ps : List (List Int)} {n k M : Int} {ke kn km pk : List (Str × V)} {d1 d2 d3 F p : Addr} {e1 e2 e3 ep : Nat} {fs : List (List Str)} {m : aU} {σ : ag} {Q : V → ag → Prop} {X : String → ag → Prop} (J : Jn s b t mo ads ts ps n k M ke kn km d1 d2 d3 F e1 e2 e3 fs m σ) (hz : ts.length < 40)
  (xp : σ p = some (.dict pk ep)) (hP : Pk pk) (hkn : ∀ x ∈ keysOf pk, ∃ l ∈ ct ke kn km, x ∈ l) (mp : m "_law_picks" = some (.ref p)) (pn : p ∉ [t, mo])
  (q : ∀ ads' ts' ps' σ', lQ [t, mo] σ σ' → BookAt (KS s) σ' b t mo ads' ts' ps' → ts'.length ≤ ts.length + 1 → Q (.bool true) σ') :
  aV (cy ns) (aV (cx ns) (aV (b8 ns) (aV (b7 ns) (xP (aq (bG ns) (aq (bF ns) ar)))))) m σ (fin Q) (fun c _ σ' => X c σ') := by
 have B := J.B
 have D := J.D
 have hpk : ∀ x ∈ keysOf pk, x ∈ KS s := fun x hx => let ⟨l, h1, h2⟩ := hkn x hx; j5 D h1 h2
 rw [aC]
 simp [cy]
 rw [aC]
 simp [J.mb, J.m1, J.m2, mp, bh B]
 refine ⟨KS s, b, t, mo, ads, ts, ps, n, k, p, pk, ep, M, ke, kn, km, rfl, B, J.n0, J.n1, J.k0, J.k1, xp, hP, hpk, J.N, J.he, J.hn, J.hk, hz, fun hbad c σ₂ hc g => ⟨hc, ?_⟩, fun f σ₂ hne hok KK B2 => ?_⟩
 ·have fin' : Q (.bool true) σ₂ := q ads ts ps σ₂ (fun z o e _ => g z o e) (B.grow g) (Nat.le_succ _)
  rw [am]
  simp [J.m1, J.m2, J.mf, dg (g _ _ J.xF)]
  by_cases hnk : n = k
  ·simp [hnk]; exact fin'
  ·have hne : ct ke kn km ≠ [] := fun e => (hbad.resolve_left hnk) (vD e hkn)
   have hl : 0 < fs.length := by rw [J.hfs.length_eq]; exact List.length_pos_iff.mpr hne
   simp [hnk, hl]
   exact fin'
 ·have kp : ∀ {z : Addr} {o : AObj}, z ∈ [d1, d2, d3, F] → σ z = some o → σ₂ z = some o := fun hz e => KK _ _ e (J.off _ hz)
  have D2 : D3 (KS s) d1 d2 d3 ke kn km e1 e2 e3 σ₂ := ⟨kp (by simp) D.xa, kp (by simp) D.xb, kp (by simp) D.xc, D.ta, D.tb, D.tc, D.un⟩
  have xF2 := kp (by simp) J.xF
  have xp2 := KK _ _ xp pn
  try simp
  rw [aC]
  simp [cx, J.m1, J.m2, J.mf, mp, hne, dg xF2, tX xp2]
  have go : aV (b8 ns) (aV (b7 ns) (xP (aq (bG ns) (aq (bF ns) ar)))) (put m "_law_number" (.int (ts.length : Int))) σ₂ (fin Q) (fun c _ σ' => X c σ') := by
   have hin := hok.inn D hpk
   rw [aC]
   simp [b8, J.mb, bh B2]
   refine ⟨KS s, b, t, mo, _, _, _, _, bp (eP ke kn km) pk, rfl, B2, Int.natCast_nonneg _, by rw [Int.toNat_natCast, List.getElem?_append_right (Nat.le_refl _), Nat.sub_self]; rfl, fun dm ed hd => ?_⟩
   have g3 : Grow σ₂ (a8 σ₂ dm (.dict (bp (eP ke kn km) pk) ed)) := Grow.refl.upd hd
   have xm := an σ₂ dm (.dict (bp (eP ke kn km) pk) ed)
   generalize (a8 σ₂ dm (.dict (bp (eP ke kn km) pk) ed)) = σ₃ at g3 xm ⊢
   have D3' := D2.grow g3
   have xp3 := g3 _ _ xp2
   rw [aC]
   simp [b7, J.me, J.ml, J.mr, mp]
   refine ⟨KS s, d1, d2, d3, ke, kn, km, e1, e2, e3, p, pk, ep, dm, ed, rfl, D3', xp3, hP, hpk, xm, hok, fun σ₄ g4 => ?_⟩
   have D4 := D3'.grow g4
   simp
   refine ⟨KS s, d1, d3, d2, ke, km, kn, e1, e3, e2, p, pk, ep, rfl, ⟨D4.xa, D4.xc, D4.xb, D4.ta, D4.tc, D4.tb, D4.un⟩, g4 _ _ xp3, hP, hpk, fun h => absurd hok.turn h, fun f2 ef2 σ₅ _ g5 hf2 xf2 => ?_⟩
   rw [← j7] at xf2
   try simp
   refine ⟨f2, dm, _, _, _, rfl, rfl, xf2, g5 _ _ (g4 _ _ xm), hin.i0.val, ?_⟩
   have g35 := g3.trans (g4.trans g5)
   have B5 := B2.grow g35
   simp
   refine sg B5 (N := ts.length) (by rw [← B.lenP, List.getElem?_append_right (Nat.le_refl _), Nat.sub_self]; rfl) (by rw [List.length_append]; exact Nat.lt_succ_self _) J.n0 J.n1 J.k0 J.k1 J.mb J.m1 J.m2 rfl fun σ₆ g6 => ?_
   exact q _ _ _ σ₆ (fun z o e hz => g6 _ _ (g35 _ _ (KK z o e hz))) (B5.grow g6) (by rw [List.length_append]; exact Nat.le_refl _)
  split
  ·rename_i hl
   split
   ·rename_i hp0
    rw [J.hfs.length_eq, vy hok hp0] at hl
    exact absurd hl (Nat.lt_irrefl _)
   ·exact go
  ·exact go
inductive PkI (told : List (List Str)) (p : Addr) (m₀ : aU) (σ₀ : ag) (m : aU) (σ' : ag) : Prop
 | mk (pk : List (Str × V)) (ep : Nat) (hP : Pk pk) (hk : ∀ x ∈ keysOf pk, ∃ l ∈ told, x ∈ l) (I : Kl p (.dict pk ep) ["_law_clash"] m₀ σ₀ m σ') : PkI told p m₀ σ₀ m σ'
theorem rz {a b c : List (Str × V)} {l : List Str} (h : l ∈ ct a b c) : l.length ≤ 2 ∧ ∃ x, l[0]? = some x ∧ x ∈ l := by
 rcases List.mem_append.mp h with h | h
 ·obtain ⟨x, _, rfl⟩ := List.mem_map.mp h; exact ⟨Nat.le_succ _, x, rfl, .head _⟩
 ·obtain ⟨x, _, h⟩ := List.mem_flatMap.mp h
  obtain ⟨u, _, rfl⟩ := List.mem_map.mp h; exact ⟨Nat.le_refl _, u, rfl, .head _⟩
theorem vk (ns : List Int) : ∀ vs σ Q X, sp__law_joins ns vs σ Q X → vs.length = 3 ∧ dA ns (aG ["_law_book", "_law_cell", "_law_shift"] vs aN) σ (fin Q) (fun c _ σ' => X c σ') := by
 rintro vs σ Q X ⟨b, t, mo, ads, ts, ps, c, s, rfl, B, hz, q⟩
 refine ⟨rfl, ?_⟩
 have hp : (0 : Int) < (ts.length : Int) := by rw [← B.lenP]; exact Int.ofNat_lt.mpr B.ord.pos
 unfold dA
 rw [aC]
 simp [f8, bh B]
 refine ⟨.inr (by unfold f9; decide), ?_⟩
 refine ⟨KS s, b, t, mo, ads, ts, ps, rfl, B, ?_⟩
 rw [m4]
 refine ⟨hp, ?_⟩
 have n0 := Int.emod_nonneg (c * 69621 % 104729) (Int.ne_of_gt hp)
 have n1 := Int.emod_lt_of_pos (c * 69621 % 104729) hp
 generalize c * 69621 % 104729 % (ts.length : Int) = n at n0 n1 ⊢
 rw [aC]
 simp [f7, bh B]
 refine ⟨.inr (by unfold f9; decide), ?_⟩
 refine ⟨KS s, b, t, mo, ads, ts, ps, rfl, B, ?_⟩
 rw [m4]
 refine ⟨hp, ?_⟩
 have k0 := Int.emod_nonneg (c * 16807 % 99991) (Int.ne_of_gt hp)
 have k1 := Int.emod_lt_of_pos (c * 16807 % 99991) hp
 generalize c * 16807 % 99991 % (ts.length : Int) = k at k0 k1 ⊢
 rw [aC]
 simp [f6, bh B]
 refine ⟨KS s, b, t, mo, ads, ts, ps, n, k, rfl, B, n0, n1, k0, k1, fun M σ₁ g1 hN => ?_⟩
 have B1 := B.grow g1
 rw [aC]
 simp [f5, bh B1]
 refine ⟨KS s, b, t, mo, ads, ts, ps, k, n, rfl, B1, k0, k1, n0, n1, fun M' σ₂ g2 hN' => ?_⟩
 cases hN.uniq hN'.swap
 have g12 := g1.trans g2
 have B2 := B.grow g12
 have hM := hN.a1.le B.ord.lt n0
 have hM1 : M < (ts.length : Int) := Int.lt_of_le_of_lt hM.2 n1
 obtain ⟨ke, he⟩ : ∃ kvs, ts[M.toNat]? = some kvs := ⟨_, List.getElem?_eq_getElem (fM hM.1 hM1)⟩
 obtain ⟨kn, hn⟩ : ∃ kvs, ts[n.toNat]? = some kvs := ⟨_, List.getElem?_eq_getElem (fM n0 n1)⟩
 obtain ⟨km, hk⟩ : ∃ kvs, ts[k.toNat]? = some kvs := ⟨_, List.getElem?_eq_getElem (fM k0 k1)⟩
 simp
 rw [aC]
 simp [f4]
 intro l hl
 have g3 := g12.upd (o := .list [.int n, .int k]) hl
 have xl := an σ₂ l (.list [.int n, .int k])
 generalize (a8 σ₂ l (.list [.int n, .int k])) = σ₃ at g3 xl ⊢
 rw [bf xl]
 refine a5 (fun i m σ' => Gk True ["_law_number"] _ σ₃ m σ') (fun _ _ _ => False) (fun _ _ _ h => h.g _ _ xl) _ ?_ ?_ (fun _ _ _ h => h.elim) _ _ ⟨Grow.refl, fun _ _ => rfl, trivial⟩
 ·intro i v m σ' Q' hv I r1 r2 r3
  have mb : m "_law_book" = some (.ref b) := (I.m _ (by decide)).trans rfl
  have mn : m "_law_near" = some (.int M) := (I.m _ (by decide)).trans rfl
  have B3 := B.grow (g3.trans I.g)
  obtain ⟨x, rfl, x0, x1, hA⟩ : ∃ x : Int, v = .int x ∧ 0 ≤ x ∧ x < (ts.length : Int) ∧ Anc ps x M := by
   have := List.mem_of_getElem? hv
   rcases List.mem_cons.mp this with rfl | this
   ·exact ⟨n, rfl, n0, n1, hN.a1⟩
   ·rw [List.mem_singleton.mp this]; exact ⟨k, rfl, k0, k1, hN.a2⟩
  refine ⟨_, rfl, ?_⟩
  rw [am]
  simp [mb, mn, bh B3]
  refine ⟨KS s, b, t, mo, ads, ts, ps, M, x, rfl, B3, hM.1, hM1, x0, x1, hA, fun r hR hrl ra σ₄ g4 hra xra => ?_⟩
  try simp
  refine ⟨KS s, b, t, mo, ads, ts, ps, ra, M, x, r, rfl, B3.grow g4, xra, hR, hM.1, x0, x1, hrl, ?_⟩
  simp
  exact r1 _ _ ⟨I.g.trans g4, fun z hz => (aE hz (by decide)).trans (I.m z hz), trivial⟩
 intro m σ₄ I
 have g4 := g3.trans I.g
 have mb : m "_law_book" = some (.ref b) := (I.m _ (by decide)).trans rfl
 have mc : m "_law_cell" = some (.int c) := (I.m _ (by decide)).trans rfl
 have m1 : m "_law_one" = some (.int n) := (I.m _ (by decide)).trans rfl
 have m2 : m "_law_other" = some (.int k) := (I.m _ (by decide)).trans rfl
 have mn : m "_law_near" = some (.int M) := (I.m _ (by decide)).trans rfl
 clear I
 have nt : ∀ {τ : ag} {a : Addr}, Grow σ τ → τ a = Option.none → a ∉ [t, mo] := fun {τ a} g h hm => by
  simp at hm
  rcases hm with rfl | rfl
  ·rw [g _ _ B.tr] at h; cases h
  ·rw [g _ _ B.md] at h; cases h
 rw [bx, aC]
 simp [f0, mb, mn, bh (B.grow g4)]
 refine ⟨KS s, b, t, mo, ads, ts, ps, M, ke, rfl, B.grow g4, hM.1, he, fun d1 e1 hd1 => ?_⟩
 have t1 := nt g4 hd1
 have g5 := g4.upd (o := .dict ke e1) hd1
 have x1 := an σ₄ d1 (.dict ke e1)
 generalize (a8 σ₄ d1 (.dict ke e1)) = σ₅ at g5 x1 ⊢
 rw [aC]
 simp [fZ, mb, m1, bh (B.grow g5)]
 refine ⟨KS s, b, t, mo, ads, ts, ps, n, kn, rfl, B.grow g5, n0, hn, fun d2 e2 hd2 => ?_⟩
 have t2 := nt g5 hd2
 have g56 : Grow σ₅ (a8 σ₅ d2 (.dict kn e2)) := Grow.refl.upd hd2
 have x2 := an σ₅ d2 (.dict kn e2)
 generalize (a8 σ₅ d2 (.dict kn e2)) = σ₆ at g56 x2 ⊢
 have g6 := g5.trans g56
 rw [aC]
 simp [fY, mb, m2, bh (B.grow g6)]
 refine ⟨KS s, b, t, mo, ads, ts, ps, k, km, rfl, B.grow g6, k0, hk, fun d3 e3 hd3 => ?_⟩
 have t3 := nt g6 hd3
 have g67 : Grow σ₆ (a8 σ₆ d3 (.dict km e3)) := Grow.refl.upd hd3
 have x3 := an σ₆ d3 (.dict km e3)
 generalize (a8 σ₆ d3 (.dict km e3)) = σ₇ at g67 x3 ⊢
 have g7 := g6.trans g67
 have D : D3 (KS s) d1 d2 d3 ke kn km e1 e2 e3 σ₇ := ⟨(g56.trans g67) _ _ x1, g67 _ _ x2, x3, B.tree _ (List.mem_of_getElem? he), B.tree _ (List.mem_of_getElem? hn), B.tree _ (List.mem_of_getElem? hk), B.un⟩
 clear g56 g67 x1 x2 x3
 rw [aC]
 simp [fX]
 refine wC D fun fs hfs F σ₈ g78 hF xF => ?_
 have tF := nt g7 hF
 have g8 := g7.trans g78
 have D8 := D.grow g78
 rw [aC]
 simp [fu, bf xF]
 refine a5 (fun i m' σ' => Gk True ["_law_clash"] _ σ₈ m' σ' ∧ σ' = σ₈) (fun _ _ _ => False) (fun _ _ _ h => by rw [h.2]; exact xF) _ ?_ ?_ (fun _ _ _ h => h.elim) _ _ ⟨⟨Grow.refl, fun _ _ => rfl, trivial⟩, rfl⟩
 ·rintro i v m' σ' Q' hv ⟨I, rfl⟩ r1 r2 r3
  obtain ⟨y, hy, rfl⟩ := mP hv
  refine ⟨_, rfl, ?_⟩
  have f1 : m' "_law_elder" = some (.ref d1) := (I.m _ (by decide)).trans rfl
  have f2 : m' "_law_left" = some (.ref d2) := (I.m _ (by decide)).trans rfl
  have f3 : m' "_law_right" = some (.ref d3) := (I.m _ (by decide)).trans rfl
  rw [am]
  simp [f1, f2, f3]
  refine ⟨KS s, d1, d2, d3, ke, kn, km, e1, e2, e3, y, rfl, D8, hfs.mem_iff.mp (List.mem_of_getElem? hy), ?_⟩
  simp
  exact r1 _ _ ⟨⟨Grow.refl, fun z hz => (aE hz (by decide)).trans (I.m z hz), trivial⟩, rfl⟩
 rintro m' σ' ⟨I, rfl⟩
 have im := I.m
 clear I
 rw [bx, aC]
 simp [ft]
 intro p ep hp'
 have tp := nt g8 hp'
 have hpn := g8.none hp'
 have g89 : Grow σ' (a8 σ' p (.dict [] ep)) := Grow.refl.upd hp'
 have xp := an σ' p (.dict [] ep)
 have hFp : F ≠ p := by rintro rfl; rw [xF] at hp'; cases hp'
 generalize (a8 σ' p (.dict [] ep)) = σ₉ at g89 xp ⊢
 have g9 := g8.trans g89
 have D9 := D8.grow g89
 have xF9 := g89 _ _ xF
 have rest : ∀ (m₂ : aU) (τ : ag) (pk : List (Str × V)) (e : Nat), Pk pk → (∀ x ∈ keysOf pk, ∃ l ∈ ct ke kn km, x ∈ l) → Kl p (.dict pk e) ["_law_clash"] (put m' "_law_picks" (.ref p)) σ₉ m₂ τ →
   aV (cy ns) (aV (cx ns) (aV (b8 ns) (aV (b7 ns) (xP (aq (bG ns) (aq (bF ns) ar)))))) m₂ τ (fin Q) (fun c _ σ' => X c σ') := by
  intro m₂ τ pk e hP hkn I
  have gt : Grow σ τ := I.grow hpn g9
  have nm : ∀ x, x ∉ ["_law_clash", "_law_picks"] → m₂ x = _ := fun x hx => (I.m x fun h => hx (by rw [List.mem_singleton.mp h]; exact .head _)).trans ((aE (xs := ["_law_clash", "_law_picks"]) hx (by decide)).trans (im x fun h => hx (by rw [List.mem_singleton.mp h]; exact .head _)))
  have kp : ∀ {z : Addr} {o : AObj}, σ₉ z = some o → z ≠ p → τ z = some o := fun e h => I.k _ _ e h
  have dp : ∀ {z : Addr} {kv : List (Str × V)} {e : Nat}, σ' z = some (.dict kv e) → z ≠ p := fun e h => by rw [h, hp'] at e; cases e
  refine p8 (F := F) ⟨hfs, B.grow gt, n0, n1, k0, k1, hN, he, hn, hk, ⟨kp D9.xa (dp D8.xa), kp D9.xb (dp D8.xb), kp D9.xc (dp D8.xc), D.ta, D.tb, D.tc, D.un⟩, kp xF9 hFp, fun x hx => ?_, (nm _ (by decide)).trans mb, (nm _ (by decide)).trans m1, (nm _ (by decide)).trans m2, (nm _ (by decide)).trans rfl, (nm _ (by decide)).trans rfl, (nm _ (by decide)).trans rfl, (nm _ (by decide)).trans rfl⟩ hz I.x hP hkn ((I.m _ (by decide)).trans rfl) tp fun ads' ts' ps' σ'' KK B2 hl => q ads' ts' ps' σ'' (gt.keep KK) B2 hl
  rcases List.mem_cons.mp hx with rfl | hx
  ·exact t1
  ·rcases List.mem_cons.mp hx with rfl | hx
   ·exact t2
   ·rcases List.mem_cons.mp hx with rfl | hx
    ·exact t3
    ·rw [List.mem_singleton.mp hx]; exact tF
 have mc' : m' "_law_cell" = some (.int c) := (im _ (by decide)).trans mc
 have mf' : m' "_law_found" = some (.ref F) := (im _ (by decide)).trans rfl
 show aV _ _ _ _ _ _
 rw [aC]
 simp [fq, mc']
 have pk0 : Pk [] := ⟨fun _ h => (nomatch h), List.nodup_nil⟩
 split
 ·rw [am]
  simp [mf', bf xF9]
  refine a5 (fun i m₂ τ => PkI (ct ke kn km) p _ σ₉ m₂ τ) (fun _ _ _ => False) (fun i m₂ τ ⟨_, _, _, _, I⟩ => I.k _ _ xF9 hFp) _ ?_ ?_ (fun _ _ _ h => h.elim) _ _ ⟨[], ep, pk0, (fun _ h => (nomatch h)), fun _ _ e _ => e, xp, fun _ _ => rfl⟩
  ·rintro i v m₂ τ Q' hv ⟨pk, ep', hP, hkn, I⟩ r1 r2 r3
   obtain ⟨y, hy, rfl⟩ := mP hv
   have hyt : y ∈ ct ke kn km := hfs.mem_iff.mp (List.mem_of_getElem? hy)
   obtain ⟨hy2, x, hx0, hx⟩ := rz hyt
   have mp : m₂ "_law_picks" = some (.ref p) := (I.m _ (by decide)).trans rfl
   have mc2 : m₂ "_law_cell" = some (.int c) := (I.m _ (by decide)).trans mc'
   refine ⟨_, rfl, ?_⟩
   rw [am]
   simp only [n8, vX, uB, ij, jQ, vV]
   refine ⟨by show 2 ≤ 1000; decide, fun a ha => ?_⟩
   have g1 : Grow τ (a8 τ a (.list [.none, .str (Str.ofString "x")])) := Grow.refl.upd ha
   have xa := an τ a (.list [.none, .str (Str.ofString "x")])
   generalize (a8 τ a (.list [.none, .str (Str.ofString "x")])) = τ₁ at g1 xa ⊢
   have fin : ∀ o : Option Str, gA (.ref p) (.str x) (eg o) τ₁ fun σ₃ => Q' .next (put m₂ "_law_clash" (cT y)) σ₃ := fun o => by
    refine er (g1 _ _ I.x) ?_ fun ep2 => ?_
    ·have : pk.length ≤ 18 := by
      have := dC hP.nodup fun z hz => let ⟨l, h1, h2⟩ := hkn z hz; j5 D h1 h2
      unfold keysOf at this
      rw [List.length_map] at this
      exact Nat.le_trans this D.un.few
     exact Nat.lt_of_le_of_lt this (by decide)
    ·refine r1 _ _ ⟨_, ep2, ⟨fun q hq => (jg hq).elim (fun e => ⟨o, by rw [e]⟩) (hP.val q), d8 hP.nodup⟩, fun z hz => ((bW _ _ _ z).mp hz).elim (fun e => ⟨y, hyt, e ▸ hx⟩) (hkn z), fun z oz e hz => by rw [aI hz]; exact g1 _ _ (I.k z oz e hz), an _ _ _, fun z hz => (aE hz (by decide)).trans (I.m z hz)⟩
   simp [mc2, mp]
   refine ⟨by omega, ?_⟩
   have i0 : aL ns (V.ref a) (V.int 0) τ₁ fun v σ₁ => aL ns (cT y) (V.int 0) σ₁ fun i σ₃ => gA (V.ref p) i v σ₃ fun σ₄ => Q' Fl.next (put m₂ "_law_clash" (cT y)) σ₄ :=
    co xa (by decide) (v := .none) rfl (gN (i := 0) hy2 hx0 (fin Option.none))
   have i1 : aL ns (V.ref a) (V.int 1) τ₁ fun v σ₁ => aL ns (cT y) (V.int 0) σ₁ fun i σ₃ => gA (V.ref p) i v σ₃ fun σ₄ => Q' Fl.next (put m₂ "_law_clash" (cT y)) σ₄ :=
    co xa (by decide) (v := .str (Str.ofString "x")) rfl (gN (i := 0) hy2 hx0 (fin (some _)))
   split
   ·split
    ·exact i1
    ·exact i0
   ·exact i0
  ·rintro m₂ τ ⟨pk, ep', hP, hkn, I⟩
   simp
   exact rest m₂ τ pk ep' hP hkn I
 ·exact rest _ σ₉ [] ep pk0 (fun _ h => (nomatch h)) ⟨fun _ _ e _ => e, xp, fun _ _ => rfl⟩
end Mine
end
noncomputable section
set_option tactic.hygienic false
set_option maxHeartbeats 2000000
namespace Mine
open PySem PySem.W PyProof.Rows PySem.Calls
theorem zx (ns : List Int) : (bJ ns (some 1) (some 31)).length ≤ 30 := by
 unfold bJ
 rw [List.length_take]
 refine Nat.le_trans (Nat.min_le_left _ _) ?_
 show clipAt ns.length 31 - clipAt ns.length 1 ≤ 30
 rw [kX (by decide), kX (by decide)]
 have e1 : (31 : Int).toNat = 31 := rfl
 have e2 : (1 : Int).toNat = 1 := rfl
 rw [e1, e2]
 omega
theorem Aj : Ord [[]] := by
 refine ⟨fun k l h => ?_, fun k l h p hp => ?_, fun k l h hk => ?_, by decide, by decide⟩
 ·rw [List.mem_singleton.mp (List.mem_of_getElem? h)]; decide
 ·rw [List.mem_singleton.mp (List.mem_of_getElem? h)] at hp; cases hp
 ·have := (List.getElem?_eq_some_iff.mp h).1
  simp at this; exact False.elim (lN [k] 0x902400461 rfl hk (Nat.le_of_eq this))
theorem t5 {ns : List Int} {s : Int} {b t mo l : Addr} {all : List V} {Q : V → ag → Prop} {X : String → ag → Prop} (hl : l ∉ [t, mo]) (q : ∀ σ, Q (.bool true) σ) :
  ∀ (cs : List Int) (ads : List Addr) (ts : List (List (Str × V))) (ps : List (List Int)) (m : aU) (σ : ag), BookAt (KS s) σ b t mo ads ts ps → ts.length + cs.length ≤ 31 → σ l = some (.list all) → m "_law_book" = some (.ref b) → m "_law_shift" = some (.int s) →
   dq (.name "_law_cell") (fun σ => σ l = some (.list all)) (aV (sN (aJ (ax tw (ax bP (ax bP (ax gG (ae "_law_cell") (az (.int 48271))) (az (.int 65537))) (az (.int 8))) (az (.int 5)))) (aV (xP (bj "_law_parent" (ax bP (ax bP (ax gG (ae "_law_cell") (az (.int 69621))) (az (.int 104729))) (be "many" (sp_many ns) (ae "_law_book") ay))))
 (aV (nO nL (aV (qH (j1 "grow" (spX_grow ns) (ae "_law_book") (ai (ae "_law_parent") (ai (aM (sp__law_deeds_by ns) (ai (ae "_law_cell") (ai (be "tree" (sp_tree ns) (ae "_law_book") (ai (ae "_law_parent") ay)) (ai (ae "_law_shift") ay)))) ay))))
 (xP ar)) (aq qQ
 ar))
 (xP ar))) (aV (sP (qG (hZ (sp__law_joins ns) (ai (ae "_law_book") (ai (ae "_law_cell") (ai (ae "_law_shift") ay))))) (xP (aq (bo (az (.bool false)))
 ar)) (xP ar))
 (xP ar)))
 (xP ar)) (cs.map V.int) m σ (nM (xP (aq (jW ns) ar)) (fin Q) fun c _ σ' => X c σ') fun c _ σ' => X c σ' := by
 intro cs
 induction cs with
 | nil =>
  intro ads ts ps m σ B hz xl mb ms
  simp only [List.map_nil, dq]
  refine ⟨xl, ?_⟩
  rw [bx, qF, am]
  simp [jW]
  exact q σ
 | cons c r ih =>
  intro ads ts ps m σ B hz xl mb ms
  have hp : (0 : Int) < (ts.length : Int) := by rw [← B.lenP]; exact Int.ofNat_lt.mpr B.ord.pos
  rw [List.length_cons] at hz
  simp only [List.map_cons, dq]
  refine ⟨xl, _, rfl, ?_⟩
  rw [aC]
  simp
  refine ⟨.inr (by unfold f9; decide), ?_⟩
  split
  ·rw [aC]
   simp [mb, bh B]
   refine ⟨.inr (by unfold f9; decide), ?_⟩
   refine ⟨KS s, b, t, mo, ads, ts, ps, rfl, B, ?_⟩
   rw [m4]
   refine ⟨hp, ?_⟩
   have n0 := Int.emod_nonneg (c * 69621 % 104729) (Int.ne_of_gt hp)
   have n1 := Int.emod_lt_of_pos (c * 69621 % 104729) hp
   generalize c * 69621 % 104729 % (ts.length : Int) = n at n0 n1 ⊢
   obtain ⟨kvs, hk⟩ : ∃ kvs, ts[n.toNat]? = some kvs := ⟨_, List.getElem?_eq_getElem (fM n0 n1)⟩
   try simp
   rw [aC]
   simp
   rw [aC]
   simp [mb, ms, bh B]
   refine ⟨KS s, b, t, mo, ads, ts, ps, n, kvs, rfl, B, n0, hk, fun d ep hd => ?_⟩
   have g1 : Grow σ (a8 σ d (.dict kvs ep)) := Grow.refl.upd hd
   have xd := an σ d (.dict kvs ep)
   generalize (a8 σ d (.dict kvs ep)) = σ₁ at g1 xd ⊢
   try simp
   refine ⟨c, d, s, kvs, ep, rfl, xd, fun dl hdl hdd L σ₂ g2 hL xL => ?_⟩
   have g12 := g1.trans g2
   try simp
   refine ⟨KS s, b, t, mo, ads, ts, ps, n, L, dl, rfl, B.grow g12, n0, n1, xL, hdl, hdd, by exact oj fun hg => lN [(ts.length), (r.length)] 0x8140821f842519001 rfl hz hg, fun c' σ₃ hc' g3 => ⟨hc', ?_⟩, fun ads' ts' ps' σ₃ KK B3 hlen => ?_⟩
   ·have g := g12.trans g3
    rw [am]
    simp
    exact ih ads ts ps _ σ₃ (B.grow g) (by exact Nat.le_of_lt hz) (g _ _ xl) mb ms
   ·try simp
    exact ih ads' ts' ps' _ σ₃ B3 (by exact dK fun hg => lN [(ts.length), (r.length), (ts'.length)] 0x2981f0846120cc1f842519001 rfl hz (Nat.le_of_eq hlen) hg) (KK _ _ (g12 _ _ xl) hl) mb ms
  ·rw [aC]
   simp [mb, ms]
   refine ⟨b, t, mo, ads, ts, ps, c, s, rfl, B, by exact oj fun hg => lN [(ts.length), (r.length)] 0x8140821f842519001 rfl hz hg, fun ads' ts' ps' σ' KK B2 hlen => ?_⟩
   simp
   exact ih ads' ts' ps' _ σ' B2 (by exact dK fun hg => lN [(ts.length), (r.length), (ts'.length)] 0x2981f0846120cc1f842519001 rfl hz hlen hg) (KK _ _ xl hl) mb ms
theorem yU (ns : List Int) : ∀ vs σ Q X, mU ns vs σ Q X → vs.length = 1 ∧ re ns (aG ["_law_script"] vs aN) σ (fin Q) (fun c _ σ' => X c σ') := by
 rintro vs σ Q X ⟨rfl, hn, q⟩
 refine ⟨rfl, ?_⟩
 have rest : ∀ (s : Int) (m : aU), m "_law_shift" = some (.int s) → m "_law_script" = some .script → aV (nE ns) (aV (nC ns) (xP (aq (jW ns) ar))) m σ (fin Q) (fun c _ σ' => X c σ') := by
  intro s m ms msc
  rw [aC]
  simp [nE]
  intro b dx hb hdx hne
  refine ⟨b, dx, rfl, an _ _ _, by rw [aI hne, an], fun t mo d0 ep σ₁ KK x1 x2 x3 x4 tm ht hmo hd0 => ⟨rfl, ?_⟩⟩
  have hbd : b ∉ [dx] := by simp; exact Ne.symm hne
  have B0 : BookAt (KS s) σ₁ b t mo [d0] [[]] [[]] := ⟨⟨dx, KK b _ (an _ _ _) hbd, x1⟩, x2, x3, tm, rfl, rfl, fun i d e => by
    have hi : i = 0 := by have := (List.getElem?_eq_some_iff.mp e).1; simp at this; exact this
    subst hi
    simp at e
    subst e
    exact ⟨[], ep, rfl, x4⟩, zf s, fun kvs h => by rw [List.mem_singleton.mp h]; exact Inn.nil, Aj⟩
  rw [aC]
  simp [nC, msc]
  intro l hl
  have hcs := zx ns
  generalize bJ ns (some 1) (some 31) = cs at hcs ⊢
  have g1 : Grow σ₁ (a8 σ₁ l (.list (cs.map V.int))) := Grow.refl.upd hl
  have xl := an σ₁ l (.list (cs.map V.int))
  generalize (a8 σ₁ l (.list (cs.map V.int))) = σ₂ at g1 xl ⊢
  have ln : l ∉ [t, mo] := fun hm => by
   simp at hm
   rcases hm with rfl | rfl
   ·rw [x2] at hl; cases hl
   ·rw [x3] at hl; cases hl
  rw [bf xl]
  exact t5 ln q cs [d0] [[]] [[]] _ σ₂ (B0.grow g1) (by show 1 + cs.length ≤ 31; exact Nat.add_le_add_left hcs _) xl rfl ms
 unfold re
 rw [aC]
 simp [rd]
 rw [aC]
 simp [rc]
 split
 ·rename_i h
  rw [am]
  simp
  refine sA (Int.le_refl 0) (by simpa using h) ?_
  exact rest (cell ns 0) _ rfl rfl
 ·exact rest 0 _ rfl rfl
end Mine
end
noncomputable section
namespace Mine
open PySem PySem.W PyProof.Rows PySem.Calls
set_option maxRecDepth 100000
noncomputable def yH (k : String) : Addr := match k with
 | "RoadError" => 31
 | "NoPath" => 44
 | "NoFile" => 56
 | "InTheWay" => 68
 | "NoClash" => 80
 | "Clashed" => 92
 | "SameVersion" => 116
 | _ => 0
theorem zb (P : Params) : (p5.map fun k => nsIn (Hd.kk P) mainGlobals (Str.ofString k)) = p5.map fun k => some (some (.ref (yH k))) := by kernel_rfl
theorem uY (P : Params) : uZ (Hd.kk P) 31 c8 = true := by kernel_rfl
theorem yJ (P : Params) : (nL.all fun k => uZ (Hd.kk P) (yH k) (.ref 31 :: c8)) = true := by kernel_rfl
theorem zz (P : Params) : nsIn (Hd.kk P) mainGlobals (Str.ofString "Book") = some (some (.ref Hd.bkA)) := by kernel_rfl
theorem zA (P : Params) : zB (Hd.kk P) Hd.bkA Hd.bkN = true := by kernel_rfl
theorem wP {C : Cx} {P : Params} (X : (Hd.kk P).In C.hB) (g : C.hB.Ns mainGlobals C.mg) (hv : C.mg (Str.ofString "ValueError") = Option.none) : XTab C nL p5 yH := by
 have mgk : ∀ k ∈ p5, C.mg (Str.ofString k) = some (.ref (yH k)) := by
  intro k hk
  have h := zb P
  exact mg_of X g (List.map_inj_left.mp h k hk)
 have xck : ∀ k ∈ nL, XC C.hB (yH k) (.ref 31 :: c8) := fun k hk => nN X (List.all_eq_true.mp (yJ P) k hk)
 refine ⟨fun k hk => ⟨mgk k hk, ?_⟩, fun c hc => ?_, hv⟩
 ·rcases List.mem_cons.mp hk with rfl | hk
  ·exact ⟨_, nN X (uY P)⟩
  ·exact ⟨_, xck k hk⟩
 ·refine ⟨.ref 31 :: c8, mgk c (.tail _ hc), xck c hc, by decide, ?_⟩
  revert c
  decide
theorem q8 {p : Program} {loose : List Str} {mean : ExcName → Option Value} {mg mb : Str → Option Value} {h : Heap} {x : String} (T : Top p loose mean mg mb h) (hf : (!(startupNames ++ loose ++ (recsOf p).map (·.name) ++ (litsOf p).map (·.1) ++ (clssOf p loose).map (·.name)).contains (Str.ofString x)) = true) : mg (Str.ofString x) = none := by
 simp only [Bool.not_eq_true', List.contains_eq_mem, decide_eq_false_iff_not, List.mem_append, not_or] at hf
 obtain ⟨⟨⟨⟨h1, h2⟩, h3⟩, h4⟩, h5⟩ := hf
 exact T.free _ h1 h2 h3 h4 h5
theorem Af : (!(startupNames ++ (looseW Hd.vw []) ++ (recsOf Hd.vw).map (·.name) ++ (litsOf Hd.vw).map (·.1) ++ (clssOf Hd.vw (looseW Hd.vw [])).map (·.name)).contains (Str.ofString "ValueError")) = true := by decide +kernel
theorem y5 : (!(startupNames ++ (looseW Hd.vw []) ++ (recsOf Hd.vw).map (·.name) ++ (litsOf Hd.vw).map (·.1) ++ (clssOf Hd.vw (looseW Hd.vw [])).map (·.name)).contains (Str.ofString "reversed")) = true := by decide +kernel
theorem xz {C : Cx} (G : Gl C Hd.vw) (hz : C.held = none) (Tb : XTab C nL p5 yH) {bk N : Addr} {mN : Str → Option Value} (B : Bk C bk N mN) {P : Params} (KX : (Hd.kk P).In C.hB) (hN : N = Hd.bkN) (hrev : C.mg (Str.ofString "reversed") = Option.none) (g1 : GInt C "LONGEST_PART" 12) (g2 : GStr C "SIGNS" (Str.ofString "abcdefghijklmnopqrstuvwxyzABCDEFGHIJKLMNOPQRSTUVWXYZ0123456789.-_")) (g3 : GInt C "MOST_PARTS" 8) : FnAtX C 8 "law" (mU C.ns) := by
 have h7 := sr G hz g1 g2 (yV C.ns)
 have h8 := sq G hz g3 h7 (wX C.ns)
 have h9 := na G hz (yW C.ns)
 have hab := vT G hz (vn C.ns)
 have hal := oH G hz (yX C.ns)
 have hmk := vS G hz hal (vj C.ns)
 have hcg := qh G hz hmk (pN C.ns)
 have hsd := qf G hz hcg hal (pL C.ns)
 have hcs := sv G hz hcg hsd hab (rK C.ns)
 have hjo := ut G hz Tb hcs hcg hsd hab (te C.ns)
 have hdo := xK G hz Tb h8 h9 (w6 C.ns)
 have hch := sw G hz hdo (rL C.ns)
 have hin := qi G hz B KX hN (w5 C.ns)
 have hne := xI G hz B KX hN (wY C.ns)
 have hma := xJ G hz B KX hN (wZ C.ns)
 have htr := xG G hz B KX hN hne (wU C.ns)
 have hpa := sm G hz B KX hN hne (rH C.ns)
 have hpu := qg G hz B KX hN (pM C.ns)
 have hgr := vU G hz B KX hN hne hpu hch (vp C.ns)
 have hel := uu G hz B KX hN hne (tf C.ns)
 have hna := sp G hz B KX hN hel (rI C.ns)
 have hme := ux G hz Tb B KX hN hne hna hjo hpu (tg C.ns)
 have hro := xH G hz B hrev KX hN hne (wW C.ns)
 have hsg := kL G hz (wV C.ns)
 have hpb := kM G hz hsg (td C.ns)
 have hdb := jK G hz hpb hsg (vm C.ns)
 have hir := kN G hz B hpa (rJ C.ns)
 have hbc := gC G hz (w7 C.ns)
 have hss := lM G hz (s9 C.ns)
 have hjs := nb G hz Tb B hma hna hro hir htr hcs hbc hss hjo hpa hme (vk C.ns)
 exact zq G hz Tb B hin hma htr hdb hjs hgr (yU C.ns)
theorem Aq : (["len", "range", "min", "max", "isinstance", "bool", "str", "int", "list", "dict", "set", "sorted", "tuple", "sum", "type"].all fun x : String => !(startupNames ++ (looseW Hd.vw []) ++ (recsOf Hd.vw).map (·.name) ++ (litsOf Hd.vw).map (·.1) ++ (clssOf Hd.vw (looseW Hd.vw [])).map (·.name)).contains (Str.ofString x)) = true := by decide +kernel
theorem v1 : valOf Hd.vw (Str.ofString "LONGEST_PART") = some (.int 12) := by rfl
theorem v2 : valOf Hd.vw (Str.ofString "SIGNS") = some (.str (Str.ofString "abcdefghijklmnopqrstuvwxyzABCDEFGHIJKLMNOPQRSTUVWXYZ0123456789.-_")) := by rfl
theorem v3 : valOf Hd.vw (Str.ofString "MOST_PARTS") = some (.int 8) := by rfl
theorem Ap : importsNone Hd.vw = true := by decide +kernel
end Mine
open PySem PySem.W PyProof.Rows PySem.Calls
set_option maxRecDepth 100000
set_option maxHeartbeats 8000000
theorem PySem.Challenge.cw_uf050007_12_holds : PySem.Challenge.rw_uf050007_12.Holds :=
 Mine.Hd.hd (by rfl) (by rfl) (by rfl) (by
 intro w s₀ s₁ mg mb G Y fa o pm cd doc dV kV ho hd hcd hD hmg hg args vals as hpre hlay hrd hwl hlo
 have KX := kIn_of Y
 have X := (Ground.X G).1
 have V := (Ground.X G).2
 refine Ground.open G ?_
 intro T B D TE TW
 try (refine guard_noD D (by decide +kernel) ?_; clear D)
 obtain ⟨_, _, M⟩ := bmod_of_top T
 wrow_args hpre hlay hrd hwl hlo
 all_goals first | refine callC_kw (enter_call ?_) | refine enter_call ?_ | refine callC_kw (enter_callW ?_) | refine enter_callW ?_ | w_how
 rename_i ns _ _ _ _ _ _ _ aS vs _ hL _ _ _ hI _ hn _
 have O : Mine.Cx.Ok ⟨PySem.Challenge.rw_uf050007_12.row.prog, w, s₁, aS, ns, mg, mb, none⟩ := Mine.Cx.ok_of rfl T Mine.Ap hL hI hn
 have GG := Mine.Gl.of T O Mine.Aq
 have hve : mg (Str.ofString "ValueError") = none := Mine.q8 T Mine.Af
 have hrev : mg (Str.ofString "reversed") = none := Mine.q8 T Mine.y5
 have Tb := Mine.wP (C := ⟨PySem.Challenge.rw_uf050007_12.row.prog, w, s₁, aS, ns, mg, mb, none⟩) (P := w.params) KX T.g hve
 have g1 : Mine.GInt ⟨PySem.Challenge.rw_uf050007_12.row.prog, w, s₁, aS, ns, mg, mb, none⟩ "LONGEST_PART" 12 := Mine.GInt.of T Mine.v1
 have g2 : Mine.GStr ⟨PySem.Challenge.rw_uf050007_12.row.prog, w, s₁, aS, ns, mg, mb, none⟩ "SIGNS" (Str.ofString "abcdefghijklmnopqrstuvwxyzABCDEFGHIJKLMNOPQRSTUVWXYZ0123456789.-_") := Mine.GStr.of T Mine.v2
 have g3 : Mine.GInt ⟨PySem.Challenge.rw_uf050007_12.row.prog, w, s₁, aS, ns, mg, mb, none⟩ "MOST_PARTS" 8 := Mine.GInt.of T Mine.v3
 obtain ⟨mN, BK⟩ := Mine.uH (C := ⟨PySem.Challenge.rw_uf050007_12.row.prog, w, s₁, aS, ns, mg, mb, none⟩) KX (Mine.zA w.params) (mg_of KX T.g (Mine.zz w.params))
 obtain ⟨a, o', fd', e1, e2, e3, S⟩ := Mine.xz GG rfl Tb BK (P := w.params) KX rfl hrev g1 g2 g3
 have ea : a = fa := by
  have := e1.symm.trans hmg
  cases this; rfl
 subst ea
 exact Mine.sb rfl S (by decide) hg (raisesW_false (by wrow_none_raised)) (by wrow_post))
end
