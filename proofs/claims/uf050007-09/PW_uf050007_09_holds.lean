import PyProof.Rows.All
import Wide.All
import OpenK.AllK
import Wide.FinOn
import PyProof.Walks
import PyProof.WalksMore
import PyProof.Cells
import PyProof.DictWalks
import PyProof.StrBlock
import PyProof.CompFree
import PyProof.StrCalls2
import PyProof.DefCall
import PyProof.MakeMany
import PyProof.CallType
import PyProof.Ns1
import PyProof.LetGo
import PyProof.PureInt
import PyProof.StrOps
import PyProof.Rows.RuleB_mod
import PyProof.Rows.RuleB_floordiv
import PyProof.Rows.RuleB_mul
import PyProof.Rows.RuleB_pow
import PyProof.Rows.RuleC_bool
import PyProof.Rows.EqNone
import PyProof.Rows.StrRules
import PyProof.Rows.IntBool
import PyProof.Raises
import PyProof.ForRange
import PyProof.RangeFor
import PyProof.StrWalks
import PyProof.IsiPairs
import PyProof.IsiHeapPairs
import PyProof.WalkInts
import PyProof.SliceMore
import PyProof.SliceStr2
import PyProof.EqAt
import PyProof.ListIndexNeg
import PyProof.StrCalls3
import PyProof.Rows.Tup
import PyProof.Rows.Lst
import PyProof.Rows.SeqMore
import PyProof.StrOps2
import PyProof.DictTruth
import PyProof.EqKinds
import PyProof.StrCalls
import PyProof.CallStr
import PyProof.Conv_int_bool
import PyProof.FactsAll.list
import PyProof.StrLawsOcc
import PyProof.FitsReplace
import PyProof.StrLawsTight
import PyProof.StrBlock2
import KE.KDictList
import KE.KItemsList
import KE.KDictOf
import PyProof.DictRoads
import PyProof.Rows.SortRuns
import PyProof.Rows.SortKey
import PyProof.Rows.SortShell
import PyProof.Rows.SortStr
import PyProof.Rows.SetFrom
import KE.KDictSum
import KE.KEqDict
import PyProof.RaisesMany
import PyProof.StationsW
import PyProof.Rows.OwnQ
import PyProof.ExcBaseAll.ValueError
import PyProof.ExcAttrAll.ValueError
import PyProof.IsInstance
import PyProof.RulesAs
import PyProof.RulesDel
import PyProof.ObjNew
import PyProof.InstLoad
import PyProof.InstStoreFacts
import PyProof.AssignAttr
import PyProof.Rows.PlainNoArg
import KE.KRevIter
import PyProof.DictTable
import PyProof.Rows.MinMaxN
import PyProof.Rows.Range3
import PyProof.ListMulRoad
import PyProof.TupleIter
import PyProof.NeKinds
import PySem.Challenge.RW_uf050007_09
set_option Elab.async false
set_option linter.unusedVariables false
set_option linter.unusedSimpArgs false
set_option autoImplicit false
noncomputable section
namespace Mine
inductive LT' where
 | v (i : Nat)
 | n (k : Nat)
 | a (x y : LT')
 | m (k : Nat) (x : LT')
noncomputable def LT'.den (c : List Nat) : LT' → Nat
 | .v i => c.getD i 0
 | .n k => k
 | .a x y => x.den c + y.den c
 | .m k x => k * x.den c
structure PL where
 r : List Nat
 k : Nat
noncomputable def PL.ev (c : List Nat) : List Nat → Nat
 | [] => 0
 | q :: r => q * c.headD 0 + PL.ev c.tail r
noncomputable def PL.den (c : List Nat) (p : PL) : Nat := PL.ev c p.r + p.k
noncomputable def oO : List Nat → List Nat → List Nat
 | [], b => b
 | a, [] => a
 | x :: a, y :: b => (x + y) :: oO a b
theorem mZ : ∀ (c a b : List Nat), PL.ev c (oO a b) = PL.ev c a + PL.ev c b
 | _, [], b => by simp [oO, PL.ev]
 | _, x :: a, [] => by simp [oO, PL.ev]
 | c, x :: a, y :: b => by
  have ih := mZ c.tail a b
  simp only [oO, PL.ev, ih, Nat.add_mul]; exact Nat.add_add_add_comm _ _ _ _
noncomputable def qY : Nat → List Nat
 | 0 => [1]
 | i + 1 => 0 :: qY i
theorem lU : ∀ (i : Nat) (c : List Nat), PL.ev c (qY i) = c.getD i 0
 | 0, [] => rfl
 | 0, x :: c => by simp [qY, PL.ev]
 | i + 1, [] => by
  have := lU i []
  simp [qY, PL.ev] at this ⊢; exact this
 | i + 1, x :: c => by
  have := lU i c
  simp [qY, PL.ev] at this ⊢; exact this
theorem pN (k : Nat) : ∀ (c a : List Nat), PL.ev c (a.map (k * ·)) = k * PL.ev c a
 | _, [] => rfl
 | c, x :: a => by
  have ih := pN k c.tail a
  simp only [List.map_cons, PL.ev, ih, Nat.mul_add, Nat.mul_assoc]
noncomputable def LT'.pl : LT' → PL
 | .v i => ⟨qY i, 0⟩
 | .n k => ⟨[], k⟩
 | .a x y => ⟨oO x.pl.r y.pl.r, x.pl.k + y.pl.k⟩
 | .m k x => ⟨x.pl.r.map (k * ·), k * x.pl.k⟩
theorem jY (c : List Nat) : ∀ x : LT', x.pl.den c = x.den c
 | .v i => by simp [LT'.pl, PL.den, LT'.den, lU]
 | .n k => by simp [LT'.pl, PL.den, LT'.den, PL.ev]
 | .a x y => by
  have h1 := jY c x
  have h2 := jY c y
  unfold PL.den at h1 h2
  simp only [LT'.pl, PL.den, LT'.den, mZ]; rw [← h1, ← h2]; exact Nat.add_add_add_comm _ _ _ _
 | .m k x => by
  have h1 := jY c x
  unfold PL.den at h1
  simp only [LT'.pl, PL.den, LT'.den, pN, ← h1, Nat.mul_add]
noncomputable def wC : List Nat → List Nat → Bool
 | _, [] => true
 | [], y :: b => y == 0 && wC [] b
 | x :: a, y :: b => Nat.ble y x && wC a b
theorem pV : ∀ (c a b : List Nat), wC a b = true → PL.ev c b ≤ PL.ev c a
 | _, _, [], _ => Nat.zero_le _
 | c, [], y :: b, h => by
  simp [wC] at h
  have := pV c.tail [] b h.2
  simp [PL.ev, h.1] at this ⊢; exact this
 | c, x :: a, y :: b, h => by
  simp [wC] at h
  have := pV c.tail a b h.2
  have h2 := Nat.mul_le_mul_right (c.headD 0) h.1
  exact Nat.add_le_add h2 this
abbrev Cert := List (Nat × LT' × LT')
noncomputable def Cert.den (c : List Nat) : Cert → Prop → Prop
 | [], g => g
 | (_, x, y) :: r, g => x.den c ≤ y.den c → Cert.den c r g
noncomputable def Cert.sum : Cert → PL × PL
 | [] => (⟨[], 0⟩, ⟨[], 0⟩)
 | (w, x, y) :: r => let s := Cert.sum r; (⟨oO (x.pl.r.map (w * ·)) s.1.r, w * x.pl.k + s.1.k⟩, ⟨oO (y.pl.r.map (w * ·)) s.2.r, w * y.pl.k + s.2.k⟩)
noncomputable def Cert.ok (t : Cert) : Bool := let s := t.sum; wC s.1.r s.2.r && Nat.blt s.2.k s.1.k
theorem oH (c : List Nat) (g : Prop) : ∀ t : Cert, (t.sum.1.den c ≤ t.sum.2.den c → g) → Cert.den c t g
 | [], h => h (Nat.le_refl _)
 | (w, x, y) :: r, h => fun hxy => oH c g r fun hr => h (by
   have h1 := jY c x
   have h2 := jY c y
   have h3 := Nat.mul_le_mul_left w hxy
   rw [← h1, ← h2] at h3
   unfold PL.den at h3 hr ⊢
   simp only [Cert.sum, mZ, pN]
   rw [Nat.mul_add, Nat.mul_add] at h3
   have h4 := Nat.add_le_add h3 hr
   rw [Nat.add_add_add_comm] at h4
   exact Nat.le_trans h4 (Nat.le_of_eq (Nat.add_add_add_comm _ _ _ _)))
theorem zd (c : List Nat) (t : Cert) (h : t.ok = true) : Cert.den c t False := oH c False t fun hs => by
 unfold Cert.ok at h
 simp only [Bool.and_eq_true, Nat.blt_eq] at h
 have h1 := pV c _ _ h.1
 have h2 := h.2
 exact Nat.lt_irrefl _ (Nat.lt_of_lt_of_le (Nat.add_lt_add_of_le_of_lt h1 h2) hs)
end Mine
namespace Mine
theorem aq (a b : Nat) : a ≤ a - b + b := Nat.sub_le_iff_le_add.mp (Nat.le_refl _)
theorem ar {a b : Nat} (h : b ≤ a) : a - b + b ≤ a := Nat.le_of_eq (Nat.sub_add_cancel h)
theorem a8 (a b : Nat) : a - b + b = a ∨ a - b = 0 := (Nat.le_total b a).imp Nat.sub_add_cancel Nat.sub_eq_zero_of_le
theorem gW (a k : Nat) : k * (a / k) ≤ a := Nat.mul_div_le a k
theorem fh (a k : Nat) (h : 0 < k) : a < k * (a / k) + k := Nat.lt_of_le_of_lt (Nat.le_of_eq (Nat.div_add_mod a k).symm) (Nat.add_lt_add_left (Nat.mod_lt a h) _)
theorem bJ (a b : Nat) : a ≤ min a b ∨ b ≤ min a b := (Nat.le_total a b).imp (fun h => Nat.le_min.mpr ⟨Nat.le_refl _, h⟩) (fun h => Nat.le_min.mpr ⟨h, Nat.le_refl _⟩)
theorem j8 (a b : Nat) : max a b ≤ a ∨ max a b ≤ b := (Nat.le_total b a).imp (fun h => Nat.max_le.mpr ⟨Nat.le_refl _, h⟩) (fun h => Nat.max_le.mpr ⟨h, Nat.le_refl _⟩)
abbrev u0 : LT' := .v 0
abbrev u1 : LT' := .v 1
abbrev u2 : LT' := .v 2
abbrev u3 : LT' := .v 3
theorem aD {a b : Nat} (h : ¬ a < b) : b ≤ a := Nat.le_of_not_lt h
theorem bP {a b : Nat} (h : ¬ a ≤ b) : b < a := Nat.lt_of_not_le h
theorem kw {α : Type} {l : List α} {i : Nat} (h : l.drop i = []) (hi : i ≤ l.length) : i = l.length := Nat.le_antisymm hi (List.drop_eq_nil_iff.mp h)
theorem mP {α : Type} {l r : List α} {x : α} {i : Nat} (h : l.drop i = x :: r) : i < l.length := Nat.lt_of_not_le fun g => by rw [List.drop_eq_nil_of_le g] at h; cases h
theorem yO {a j L c d k : Nat} (h : a + c * (j + 1) + d < L) (hk : k ≤ c) : a + k + c * j + d < L :=
 Nat.lt_of_le_of_lt (Nat.add_le_add_right (by rw [Nat.add_assoc, Nat.add_comm k]; exact Nat.add_le_add_left (Nat.add_le_add_left hk _) a) d) h
noncomputable def dT : Nat → Nat → (LT' → Nat → Cert) → Cert
 | 0, _, _ => []
 | f + 1, c, k => bif Nat.beq (c % 32) 0 then dT f (c / 32) fun x r => dT f r fun y s => k (.a x y) s
  else bif Nat.beq (c % 32) 3 then dT f (c / 32) fun x r => k (.a x (.n 1)) r
  else bif Nat.beq (c % 32) 1 then k (.n (c / 1024 % 32 ^ (c / 32 % 32))) (c / 1024 / 32 ^ (c / 32 % 32))
  else bif Nat.beq (c % 32) 2 then dT f (c / 1024) fun x r => k (.m (c / 32 % 32) x) r
  else k (.v (c % 32 - 4)) (c / 32)
noncomputable def dR : Nat → Nat → Cert
 | 0, _ => []
 | f + 1, c => bif Nat.beq c 0 then [] else dT 12 (c / 32) fun x r => dT 12 r fun y s => (c % 32, x, y) :: dR f s
theorem lN (c : List Nat) (n : Nat) (h : (dR 20 n).ok = true) : Cert.den c (dR 20 n) False := zd c (dR 20 n) h
end Mine
end
noncomputable section
namespace Mine
open PySem
inductive V where
 | none
 | bool (b : Bool)
 | int (i : Int)
 | str (s : Str)
 | ref (a : Addr)
 | script
 | ty (n : String)
 | tup (vs : List V)
inductive AObj where
 | list (xs : List V)
 | dict (kvs : List (Str × V)) (ep : Nat)
 | idict (kvs : List (Int × V)) (ep : Nat)
 | inst (dx : Addr)
 | ns (fs : List (String × V))
abbrev ai := Addr → Option AObj
abbrev bg := String → Option V
noncomputable def aZ (σ : ai) (a : Addr) (o : AObj) : ai := fun b => if b = a then some o else σ b
noncomputable def put (m : bg) (x : String) (v : V) : bg := fun y => bif y == x then some v else m y
@[simp] theorem au (σ : ai) (a : Addr) (o : AObj) : aZ σ a o a = some o := by simp [aZ]
theorem aC {σ : ai} {a b : Addr} {o : AObj} (h : b ≠ a) : aZ σ a o b = σ b := by simp [aZ, h]
theorem tG {σ : ai} {a b : Addr} {o o' : AObj} (ha : σ a = none) (hb : σ b = some o') : aZ σ a o b = some o' := by
 rw [aC (by rintro rfl; rw [ha] at hb; cases hb), hb]
@[simp low] theorem jW (m : bg) (x : String) (v : V) : put m x v x = some v := by simp [put]
theorem gR {m : bg} {x y : String} {v : V} (h : y ≠ x) : put m x v y = m y := by unfold put; rw [beq_false_of_ne h]; rfl
structure Cx where
 prog : Program
 w : World
 s₁ : Shared
 aS : Addr
 ns : List Int
 mg : Str → Option Value
 mb : Str → Option Value
 held : Option Addr := none
abbrev Cx.hB (C : Cx) : Heap := C.s₁.heap
structure Cx.Ok (C : Cx) : Prop where
 g : C.hB.Ns mainGlobals C.mg
 b : C.hB.Ns builtinsNs C.mb
 nolimit : C.hB.NoLimit
 mods : ∃ o, C.hB.get? sysModules = some o
 few : C.ns.length ≤ 63
 heldOk : ∀ e, C.held = some e → ∃ o vs, C.hB.get? e = some o ∧ o.data = .fields vs ∧ vs[2]? = some .none
 script : ∃ ws, C.hB.IsList C.aS ws ∧ ws.toList.length = C.ns.length ∧ ∀ (i : Nat) n, C.ns[i]? = some n → ∃ t, ws.toList[i]? = some (Value.int n t)
theorem Cx.Ok.noMods {C : Cx} (O : C.Ok) {a : Addr} (h : C.hB.get? a = none) : (a == sysModules) = false := by
 obtain ⟨o, ho⟩ := O.mods
 simp only [beq_eq_false_iff_ne]
 rintro rfl
 rw [ho] at h; cases h
mutual
inductive VRel (aS : Addr) (h : Heap) : V → Value → Prop
 | none : VRel aS h .none .none
 | bool (b : Bool) : VRel aS h (.bool b) (.bool b)
 | int (i : Int) (t : Tok) : VRel aS h (.int i) (.int i t)
 | str (x : Str) (t : Tok) : VRel aS h (.str x) (.str x t)
 | ref (a : Addr) : VRel aS h (.ref a) (.ref a)
 | script : VRel aS h .script (.ref aS)
 | ty (n : String) : VRel aS h (.ty n) (.type n)
 | tup {vs : List V} {a : Addr} {ws : List Value} : h.IsTuple a ws.toArray → VRels aS h vs ws → VRel aS h (.tup vs) (.ref a)
inductive VRels (aS : Addr) (h : Heap) : List V → List Value → Prop
 | nil : VRels aS h [] []
 | cons {v : V} {w : Value} {vs : List V} {ws : List Value} : VRel aS h v w → VRels aS h vs ws → VRels aS h (v :: vs) (w :: ws)
end
noncomputable def i7 (o : Obj) : Prop := o.cls = .type "tuple" ∧ ∃ it n, o.data = .seq it n
noncomputable def a6 (h h' : Heap) : Prop := ∀ b o, h.get? b = some o → i7 o → h'.get? b = some o
theorem VRel.keep {aS : Addr} {h h' : Heap} (k : a6 h h') {v : V} {w : Value} (x : VRel aS h v w) : VRel aS h' v w :=
 VRel.rec (motive_1 := fun v w _ => VRel aS h' v w) (motive_2 := fun vs ws _ => VRels aS h' vs ws) .none .bool .int .str .ref .script .ty (fun ht _ ih => .tup (let ⟨o, ho, hc, r⟩ := ht; ⟨o, k _ o ho ⟨hc, _, r⟩, hc, r⟩) ih) .nil (fun _ _ a b => .cons a b) x
theorem VRels.inv0 {aS : Addr} {h : Heap} {ws : List Value} (x : VRels aS h [] ws) : ws = [] := by cases x; rfl
theorem VRels.invC {aS : Addr} {h : Heap} {a : V} {as : List V} {ws : List Value} (x : VRels aS h (a :: as) ws) : ∃ w ws', ws = w :: ws' ∧ VRel aS h a w ∧ VRels aS h as ws' := by
 cases x with
 | cons h1 r => exact ⟨_, _, rfl, h1, r⟩
theorem VRels.ind {aS : Addr} {h : Heap} {P : List V → List Value → Prop} (h0 : P [] []) (h1 : ∀ v w vs ws, VRel aS h v w → VRels aS h vs ws → P vs ws → P (v :: vs) (w :: ws)) {vs : List V} {ws : List Value} (x : VRels aS h vs ws) : P vs ws := by
 induction vs generalizing ws with
 | nil => rw [x.inv0]; exact h0
 | cons v vs ih => obtain ⟨w, ws, rfl, a, r⟩ := x.invC; exact h1 _ _ _ _ a r (ih r)
theorem VRels.keep {aS : Addr} {h h' : Heap} (k : a6 h h') {vs : List V} {ws : List Value} (x : VRels aS h vs ws) : VRels aS h' vs ws :=
 x.ind .nil fun _ _ _ _ a _ ih => .cons (a.keep k) ih
theorem VRels.length {aS : Addr} {h : Heap} {vs : List V} {ws : List Value} (x : VRels aS h vs ws) : vs.length = ws.length :=
 x.ind (P := fun vs ws => vs.length = ws.length) rfl fun _ _ _ _ _ _ ih => congrArg (· + 1) ih
theorem VRels.get {aS : Addr} {h : Heap} {vs : List V} {ws : List Value} (x : VRels aS h vs ws) : ∀ {i : Nat} {v : V}, vs[i]? = some v → ∃ w, ws[i]? = some w ∧ VRel aS h v w :=
 x.ind (P := fun vs ws => ∀ {i : Nat} {v : V}, vs[i]? = some v → ∃ w, ws[i]? = some w ∧ VRel aS h v w) (fun e => by cases e) fun _ w _ _ a _ ih i _ e => by
  cases i with
  | zero => cases e; exact ⟨w, rfl, a⟩
  | succ i => exact ih e
theorem VRel.invStr {aS : Addr} {h : Heap} {x : Str} {w : Value} (r : VRel aS h (.str x) w) : ∃ t, w = .str x t := by cases r; exact ⟨_, rfl⟩
theorem VRel.invInt {aS : Addr} {h : Heap} {x : Int} {w : Value} (r : VRel aS h (.int x) w) : ∃ t, w = .int x t := by cases r; exact ⟨_, rfl⟩
theorem VRels.append {aS : Addr} {h : Heap} {vs vs' : List V} {ws ws' : List Value} (x : VRels aS h vs ws) (y : VRels aS h vs' ws') : VRels aS h (vs ++ vs') (ws ++ ws') :=
 x.ind (P := fun vs ws => VRels aS h (vs ++ vs') (ws ++ ws')) y fun _ _ _ _ a _ ih => .cons a ih
noncomputable def PRel {K : Type} (aS : Addr) (h : Heap) : List (K × V) → List (K × Value) → Prop
 | [], [] => True
 | (k, v) :: r, (k', w) :: r' => k = k' ∧ VRel aS h v w ∧ PRel aS h r r'
 | _, _ => False
theorem PRel.ind {K : Type} {aS : Addr} {h : Heap} {P : List (K × V) → List (K × Value) → Prop} (h0 : P [] []) (h1 : ∀ k v w r r', VRel aS h v w → PRel aS h r r' → P r r' → P ((k, v) :: r) ((k, w) :: r')) {a : List (K × V)} {b : List (K × Value)} (x : PRel aS h a b) : P a b := by
 induction a generalizing b with
 | nil => cases b with
  | nil => exact h0
  | cons _ _ => exact False.elim x
 | cons p a ih => cases b with
  | nil => exact False.elim x
  | cons q b =>
   obtain ⟨k, v⟩ := p
   obtain ⟨k', w⟩ := q
   have y : k = k' ∧ VRel aS h v w ∧ PRel aS h a b := x
   obtain ⟨rfl, y, r⟩ := y
   exact h1 _ _ _ _ _ y r (ih r)
theorem PRel.keep {K : Type} {aS : Addr} {h h' : Heap} (k : a6 h h') {a : List (K × V)} {b : List (K × Value)} (x : PRel aS h a b) : PRel aS h' a b :=
 x.ind trivial fun _ _ _ _ _ v _ ih => ⟨rfl, v.keep k, ih⟩
theorem PRel.length {K : Type} {aS : Addr} {h : Heap} {a : List (K × V)} {b : List (K × Value)} (x : PRel aS h a b) : a.length = b.length :=
 x.ind (P := fun a b => a.length = b.length) rfl fun _ _ _ _ _ _ _ ih => congrArg (· + 1) ih
theorem PRel.get {K : Type} {aS : Addr} {h : Heap} {a : List (K × V)} {b : List (K × Value)} (x : PRel aS h a b) : ∀ {i : Nat} {k : K} {v : V}, a[i]? = some (k, v) → ∃ w, b[i]? = some (k, w) ∧ VRel aS h v w :=
 x.ind (P := fun a b => ∀ {i : Nat} {k : K} {v : V}, a[i]? = some (k, v) → ∃ w, b[i]? = some (k, w) ∧ VRel aS h v w) (fun e => by simp at e) fun _ _ w _ _ hv _ ih i _ _ e => by
  cases i with
  | zero => cases e; exact ⟨w, rfl, hv⟩
  | succ i => exact ih e
noncomputable def ObjRel (C : Cx) (h : Heap) (a : Addr) : AObj → Prop
 | .list xs => xs.length ≤ 16777216 ∧ ∃ ws : List Value, h.PlainList a ws.toArray ∧ VRels C.aS h xs ws
 | .dict kvs ep => kvs.length ≤ 16777216 ∧ ∃ kws, h.DictAt (strKind C.prog C.w) a kws ep ∧ PRel C.aS h kvs kws
 | .idict kvs ep => kvs.length ≤ 16777216 ∧ ∃ kws, h.DictAt (intKind C.prog C.w) a kws ep ∧ PRel C.aS h kvs kws
 | .inst dx => ∃ cl, C.mg (Str.ofString "Book") = some (.ref cl) ∧ dx ≠ a ∧ h.get? a = some { cls := .ref cl, dict := some dx, data := .plain }
 | .ns fs => fs.length ≤ 1000 ∧ ∃ mA : Str → Option Value, h.Ns1 a mA ∧ (∀ x v, fs.lookup x = some v → ∃ w, mA (Str.ofString x) = some w ∧ VRel C.aS h v w) ∧ ∀ y : Str, (∀ q ∈ fs, y ≠ Str.ofString q.1) → mA y = none
theorem ObjRel.keep {C : Cx} {h h' : Heap} {a : Addr} {o : AObj} (x : ObjRel C h a o) (k : a6 h h') (ka : ∀ o, h.get? a = some o → h'.get? a = some o) : ObjRel C h' a o := by
 cases o with
 | list xs => obtain ⟨hz, ws, h1, h2⟩ := x; exact ⟨hz, ws, h1.at ka, h2.keep k⟩
 | dict kvs ep => obtain ⟨hz, ws, h1, h2⟩ := x; exact ⟨hz, ws, h1.at' ka, h2.keep k⟩
 | idict kvs ep => obtain ⟨hz, ws, h1, h2⟩ := x; exact ⟨hz, ws, h1.at' ka, h2.keep k⟩
 | inst dx => obtain ⟨cl, h1, h2, h3⟩ := x; exact ⟨cl, h1, h2, ka _ h3⟩
 | ns fs => obtain ⟨hz, mA, h1, h2, h3⟩ := x; exact ⟨hz, mA, h1.at ka, fun y v e => let ⟨w, a, b⟩ := h2 y v e; ⟨w, a, b.keep k⟩, h3⟩
theorem ObjRel.shape {C : Cx} {h : Heap} {a : Addr} {o : AObj} (x : ObjRel C h a o) : ∃ ob, h.get? a = some ob ∧ ¬ i7 ob ∧ ∀ v, ob.data ≠ .cell v := by
 cases o with
 | list xs => obtain ⟨_, ws, ⟨n, h1⟩, h2⟩ := x; exact ⟨_, h1, by simp [i7], by simp⟩
 | dict kvs ep => obtain ⟨_, ws, ⟨o, es, ho, hc, hd, _⟩, h2⟩ := x; exact ⟨o, ho, by simp [i7, hd], by rw [hd]; simp⟩
 | idict kvs ep => obtain ⟨_, ws, ⟨o, es, ho, hc, hd, _⟩, h2⟩ := x; exact ⟨o, ho, by simp [i7, hd], by rw [hd]; simp⟩
 | inst dx => obtain ⟨cl, h1, h2, h3⟩ := x; exact ⟨_, h3, by simp [i7], by simp⟩
 | ns fs => obtain ⟨_, mA, ⟨o, es, ep, ho, hd, _⟩, h2⟩ := x; exact ⟨o, ho, by simp [i7, hd], by rw [hd]; simp⟩
structure RelG (C : Cx) (σ : ai) (s : Shared) : Prop where
 rest : ∃ h tk d, s = { C.s₁ with heap := h, toks := tk, drawn := d }
 base : ∀ b o, C.hB.get? b = some o → s.heap.get? b = some o
 view : ∀ a o, σ a = some o → ObjRel C s.heap a o
 apart : ∀ a, σ a ≠ none → C.hB.get? a = none
noncomputable def Like (o o' : Obj) : Prop := o' = o ∨ ((∃ es ep, o.data = .dict es ep) ∧ ∃ sl, o' = { o with slots := sl })
theorem Like.refl (o : Obj) : Like o o := .inl rfl
theorem Like.trans {a b c : Obj} (x : Like a b) (y : Like b c) : Like a c := by
 rcases x with rfl | ⟨⟨es, ep, hd⟩, sl, rfl⟩
 ·exact y
 ·rcases y with rfl | ⟨_, sl', rfl⟩
  ·exact .inr ⟨⟨es, ep, hd⟩, sl, rfl⟩
  ·exact .inr ⟨⟨es, ep, hd⟩, sl', rfl⟩
theorem Like.ns {h h' : Heap} {a : Addr} {m : Str → Option Value} (hn : h.Ns a m) (k : ∀ o, h.get? a = some o → ∃ o', h'.get? a = some o' ∧ Like o o') : h'.Ns a m := by
 obtain ⟨o, es, ep, ho, hd, r⟩ := hn
 obtain ⟨o', ho', hl⟩ := k o ho
 rcases hl with rfl | ⟨_, sl, rfl⟩
 ·exact ⟨_, es, ep, ho', hd, r⟩
 ·exact ⟨_, es, ep, ho', hd, r⟩
structure Step (own : Addr → Prop) (σ σ' : ai) (h h' : Heap) : Prop where
 keepL : ∀ b o, h.get? b = some o → σ b = none → ¬ own b → ∃ o', h'.get? b = some o' ∧ Like o o'
 size : h.objs.size ≤ h'.objs.size
 new : ∀ b, σ b = none → σ' b ≠ none → h.objs.size ≤ b
noncomputable def no : Addr → Prop := fun _ => False
theorem Step.of {own : Addr → Prop} {σ σ' : ai} {h h' : Heap} (k : ∀ b o, h.get? b = some o → σ b = none → ¬ own b → h'.get? b = some o) (size : h.objs.size ≤ h'.objs.size) (new : ∀ b, σ b = none → σ' b ≠ none → h.objs.size ≤ b) : Step own σ σ' h h' :=
 ⟨fun b o e n q => ⟨o, k b o e n q, Like.refl o⟩, size, new⟩
theorem Step.keep {own : Addr → Prop} {σ σ' : ai} {h h' : Heap} (x : Step own σ σ' h h') (b : Addr) (o : Obj) (e : h.get? b = some o) (n : σ b = none) (q : ¬ own b) (hd : ∀ es ep, o.data ≠ .dict es ep) : h'.get? b = some o := by
 obtain ⟨o', h1, h2⟩ := x.keepL b o e n q
 rcases h2 with rfl | ⟨⟨es, ep, z⟩, _⟩
 ·exact h1
 ·exact absurd z (hd es ep)
theorem Step.mono {own own' : Addr → Prop} {σ σ' : ai} {h h' : Heap} (x : Step own σ σ' h h') (k : ∀ b o, h.get? b = some o → own b → own' b) : Step own' σ σ' h h' :=
 ⟨fun b o e n q => x.keepL b o e n fun z => q (k b o e z), x.size, x.new⟩
theorem RelG.dom {C : Cx} {σ : ai} {s : Shared} (R : RelG C σ s) : ∀ b, σ b ≠ none → s.heap.get? b ≠ none := fun b hb => by
 cases e : σ b with
 | none => exact absurd e hb
 | some o => obtain ⟨ob, h1, _⟩ := (R.view b o e).shape; rw [h1]; simp
theorem Step.refl {own : Addr → Prop} {σ : ai} {h : Heap} : Step own σ σ h h :=
 .of (fun _ _ e _ _ => e) (Nat.le_refl _) fun _ h h' => absurd h h'
theorem Step.trans {own : Addr → Prop} {σ₁ σ₂ σ₃ : ai} {h₁ h₂ h₃ : Heap} (x : Step own σ₁ σ₂ h₁ h₂) (y : Step own σ₂ σ₃ h₂ h₃) : Step own σ₁ σ₃ h₁ h₃ where
 keepL := fun b o e n q => by
  obtain ⟨o', h1, h2⟩ := x.keepL b o e n q
  obtain ⟨o'', h3, h4⟩ := y.keepL b o' h1 (by
   cases z : σ₂ b with
   | none => rfl
   | some o' => have := x.new b n (by rw [z]; simp); exact absurd (Heap.lt_size e) (Nat.not_lt.mpr this)) q
  exact ⟨o'', h3, h2.trans h4⟩
 size := Nat.le_trans x.size y.size
 new := fun b n m => by
  cases z : σ₂ b with
  | some o' => exact x.new b n (by rw [z]; simp)
  | none => exact Nat.le_trans x.size (y.new b z m)
theorem Step.tups {C : Cx} {own : Addr → Prop} {σ σ' : ai} {s : Shared} {h' : Heap} (R : RelG C σ s) (x : Step own σ σ' s.heap h') (ho : ∀ b o, own b → s.heap.get? b = some o → ¬ i7 o) : a6 s.heap h' := fun b o e hc =>
 x.keep b o e (by
  cases z : σ b with
  | none => rfl
  | some o' => obtain ⟨ob, h1, h2, _⟩ := (R.view b o' z).shape; rw [e] at h1; cases h1; exact absurd hc h2) (fun z => ho b o z e hc) (fun es ep z => by obtain ⟨_, it, n, hd⟩ := hc; rw [hd] at z; cases z)
theorem Step.tupsN {C : Cx} {σ σ' : ai} {s : Shared} {h' : Heap} (R : RelG C σ s) (x : Step no σ σ' s.heap h') : a6 s.heap h' := x.tups R fun _ _ z => z.elim
theorem RelG.grow {C : Cx} {σ : ai} {s : Shared} {h' : Heap} {tk : Nat} (R : RelG C σ s) (k : ∀ b o, s.heap.get? b = some o → h'.get? b = some o) : RelG C σ { s with heap := h', toks := tk } where
 rest := let ⟨_, _, d, e⟩ := R.rest; ⟨h', tk, d, by rw [e]⟩
 base := fun b o e => k b o (R.base b o e)
 view := fun a o e => (R.view a o e).keep (fun b o e _ => k b o e) fun o e => k a o e
 apart := R.apart
theorem Step.grow {own : Addr → Prop} {σ : ai} {h h' : Heap} (k : ∀ b o, h.get? b = some o → h'.get? b = some o) (z : h.objs.size ≤ h'.objs.size) : Step own σ σ h h' :=
 .of (fun b o e _ _ => k b o e) z fun _ h h' => absurd h h'
theorem Step.push {own : Addr → Prop} {σ : ai} {h : Heap} {o : Obj} : Step own σ σ h (h.push o) := .grow (fun _ _ e => Heap.get?_push_of_some _ e) (by rw [Heap.size_push]; exact Nat.le_succ _)
theorem RelG.draw {C : Cx} {σ : ai} {s : Shared} (R : RelG C σ s) (d : Drawn) : RelG C σ { s with drawn := d } where
 rest := let ⟨h, tk, _, e⟩ := R.rest; ⟨h, tk, d, by rw [e]⟩
 base := R.base
 view := R.view
 apart := R.apart
theorem RelG.tok {C : Cx} {σ : ai} {s : Shared} (R : RelG C σ s) (tk : Nat) : RelG C σ { s with toks := tk } := R.grow fun _ _ e => e
theorem RelG.freshNone {C : Cx} {σ : ai} {s : Shared} (R : RelG C σ s) {a : Addr} (h : s.heap.get? a = none) : σ a = none := by
 cases e : σ a with
 | none => rfl
 | some o => exact absurd h (R.dom a (by rw [e]; simp))
theorem bV (h : Heap) : h.get? h.objs.size = none := by
 cases e : h.get? h.objs.size with
 | none => rfl
 | some o => exact absurd (Heap.lt_size e) (Nat.lt_irrefl _)
theorem RelG.baseNone {C : Cx} {σ : ai} {s : Shared} (R : RelG C σ s) {a : Addr} (h : s.heap.get? a = none) : C.hB.get? a = none := by
 cases e : C.hB.get? a with
 | none => rfl
 | some o => rw [R.base a o e] at h; cases h
theorem RelG.add {C : Cx} {σ : ai} {s : Shared} {h' : Heap} {tk : Nat} {a : Addr} {o : AObj} (R : RelG C σ s) (k : ∀ b o, s.heap.get? b = some o → h'.get? b = some o) (hn : s.heap.get? a = none) (ho : ObjRel C h' a o) :
  RelG C (aZ σ a o) { s with heap := h', toks := tk } where
 rest := (R.grow (tk := tk) k).rest
 base := (R.grow (tk := tk) k).base
 view := fun b o' e => by
  by_cases hb : b = a
  ·subst hb; rw [au] at e; cases e; exact ho
  ·rw [aC hb] at e; exact (R.grow (tk := tk) k).view b o' e
 apart := fun b hb => by
  by_cases q : b = a
  ·subst q; exact R.baseNone hn
  ·rw [aC q] at hb; exact R.apart b hb
theorem Step.add {own : Addr → Prop} {σ : ai} {h h' : Heap} {a : Addr} {o : AObj} (k : ∀ b o, h.get? b = some o → h'.get? b = some o) (z : h.objs.size ≤ h'.objs.size) (hn : h.objs.size ≤ a) : Step own σ (aZ σ a o) h h' :=
 .of (fun b o e _ _ => k b o e) z fun b n m => by
  by_cases q : b = a
  ·subst q; exact hn
  ·rw [aC q] at m; exact absurd n m
theorem Step.addPush {own : Addr → Prop} {σ : ai} {h : Heap} {ob : Obj} {o : AObj} : Step own σ (aZ σ h.objs.size o) h (h.push ob) := .add (fun _ _ e => Heap.get?_push_of_some _ e) (by rw [Heap.size_push]; exact Nat.le_succ _) (Nat.le_refl _)
theorem RelG.change {C : Cx} {σ : ai} {s : Shared} {h' : Heap} {tk : Nat} {a : Addr} {o o' : AObj} (R : RelG C σ s) (ha : σ a = some o) (k : Heap.SameBut a s.heap h') (ho : ObjRel C h' a o') : RelG C (aZ σ a o') { s with heap := h', toks := tk } where
 rest := let ⟨_, _, d, e⟩ := R.rest; ⟨h', tk, d, by rw [e]⟩
 base := fun b o e => (k.2 b (by rintro rfl; rw [R.apart b (by rw [ha]; simp)] at e; cases e)).trans (R.base b o e)
 view := fun b o₂ e => by
  by_cases hb : b = a
  ·subst hb; rw [au] at e; cases e; exact ho
  ·rw [aC hb] at e
   refine (R.view b o₂ e).keep (fun c oc ec hc => ?_) fun oc ec => (k.2 b hb).trans ec
   exact (k.2 c (by rintro rfl; obtain ⟨ob, h1, h2, _⟩ := (R.view c o ha).shape; rw [ec] at h1; cases h1; exact h2 hc)).trans ec
 apart := fun b hb => by
  by_cases q : b = a
  ·subst q; exact R.apart b (by rw [ha]; simp)
  ·rw [aC q] at hb; exact R.apart b hb
theorem Step.change {own : Addr → Prop} {σ : ai} {h h' : Heap} {a : Addr} {o o' : AObj} (ha : σ a = some o) (k : Heap.SameBut a h h') : Step own σ (aZ σ a o') h h' :=
 .of (fun b o₂ e n _ => (k.2 b (by rintro rfl; rw [ha] at n; cases n)).trans e) (Nat.le_of_eq k.1.symm)
   fun b n m => by
  by_cases q : b = a
  ·subst q; rw [ha] at n; cases n
  ·rw [aC q] at m; exact absurd n m
theorem aI {h : Heap} {a : Addr} (q : h.objs.size ≤ a) : h.get? a = none := by
 cases e : h.get? a with
 | none => rfl
 | some o => exact absurd (Heap.lt_size e) (Nat.not_lt.mpr q)
theorem iP {M : Model} {Γ : Ctx} {p : Pos} {t : Sem Fin} {fs : List Frame} {s s' : Shared} {e : End} (h : Runs M Γ p t fs s e s') : s.heap.objs.size ≤ s'.heap.objs.size := by
 induction h <;> (try simp only [Shared.setGen, Heap.size_push, Heap.size_after_update] at *) <;> omega
theorem pq {M : Model} {Γ : Ctx} {p : Pos} {g : Nat} {r : Resume} {s s' : Shared} {res : GenResult} (h : Wakes M Γ p g r s res s') : s.heap.objs.size ≤ s'.heap.objs.size := by
 unfold Wakes at h
 split at h
 ·exact h.elim
 ·split at h
  ·obtain ⟨e₁, s₁, hr, _, _, rfl⟩ := h; exact (iP hr : (s.setGen g .running).heap.objs.size ≤ s₁.heap.objs.size)
  ·rw [h.2]; exact Nat.le_refl _
  ·rw [h.2]; exact Nat.le_refl _
 ·obtain ⟨e₁, s₁, hr, _, _, rfl⟩ := h; exact (iP hr : (s.setGen g .running).heap.objs.size ≤ s₁.heap.objs.size)
 ·rw [h.2]; exact Nat.le_refl _
 ·rw [h.2]; exact Nat.le_refl _
theorem tC {α : Type} (M : Model) (Γ : Ctx) (n : Nat) (t : Sem α) : ∀ (Q : α → Pos → Shared → Prop) (E : Value → Pos → Shared → Prop) (p : Pos) (s : Shared), n ≤ s.heap.objs.size → Sem.wp M Γ t Q E p s →
  Sem.wp M Γ t (fun a p' s' => n ≤ s'.heap.objs.size ∧ Q a p' s') (fun e p' s' => n ≤ s'.heap.objs.size ∧ E e p' s') p s := by
 induction t with
 | pure a | raise a => intro Q E p s hn h; exact ⟨hn, h⟩
 | unsupported | finish | register | yield | fork | await => intro Q E p s _ h; exact h
 | rule _ k ih | «at» _ k ih | point _ k ih | ask k ih | handled _ k ih | stack k ih | thread k ih | loadIfAlive _ k ih | fresh k ih | os _ _ k ih | newGen _ k ih => intro Q E p s hn h; exact ih _ Q E _ _ hn h
 | load a _ k ih => intro Q E p s hn h; obtain ⟨o, ho, h⟩ := h; exact ⟨o, ho, ih o Q E p s hn h⟩
 | update a _ f k ih => intro Q E p s hn h; exact ⟨h.1, ih () Q E p _ (by simpa using hn) h.2⟩
 | alloc o k ih => intro Q E p s hn h; exact ih _ Q E p _ (by simp; omega) h
 | choose src m k ih => intro Q E p s hn h; exact ⟨h.1, ih _ Q E p _ hn h.2⟩
 | call c hd _ _ k ih => intro Q E p s hn h; obtain ⟨r, s', hr, h⟩ := h; exact ⟨r, s', hr, ih r Q E p s' (Nat.le_trans hn (iP hr)) h⟩
 | genState g k ih => intro Q E p s hn h; obtain ⟨st, hs, h⟩ := h; exact ⟨st, hs, ih _ Q E p s hn h⟩
 | resume g r _ k ih => intro Q E p s hn h; obtain ⟨res, s', hw, h⟩ := h; exact ⟨res, s', hw, ih res Q E p s' (Nat.le_trans hn (pq hw)) h⟩
theorem bv {α : Type} {M : Model} {A : Around} {s : Shared} {t : Sem α} {Q : α → Shared → Prop} {E : Value → Shared → Prop}
  (h : wpAny M A t (fun a s' => s.heap.objs.size ≤ s'.heap.objs.size → Q a s') E s) : wpAny M A t Q E s :=
 fun Γ p hΓ => Sem.wp_mono M Γ t (fun _ _ _ x => x.2 x.1) (fun _ _ _ x => x.2) p s (tC M Γ _ t _ _ p s (Nat.le_refl _) (h Γ p hΓ))
noncomputable def zf (σ : ai) (a : Addr) : ai := fun b => if b = a then none else σ b
end Mine
end
noncomputable section
namespace Mine
open PySem
noncomputable def qe (env : Env) (b : Addr) : Prop := b = env.locals ∨ ∃ n, env.cells.lookup n = some b
structure FrameRel (C : Cx) (env : Env) (m : bg) (σ : ai) (h : Heap) : Prop where
 ns : ∃ mm, h.Ns env.locals mm ∧ ∀ x v, m x = some v → env.kindOf (Str.ofString x) = some .local → ∃ w, mm (Str.ofString x) = some w ∧ VRel C.aS h v w
 cel : ∀ x v, m x = some v → env.kindOf (Str.ofString x) = some .local ∨
  ((env.kindOf (Str.ofString x) = some .cell ∨ env.kindOf (Str.ofString x) = some .free) ∧ ∃ c w, env.cells.lookup (Str.ofString x) = some c ∧ h.IsCell c (some w) ∧ VRel C.aS h v w)
 cells : ∀ n c, env.cells.lookup n = some c → ∃ v, h.IsCell c v
 sepL : σ env.locals = none
 baseL : C.hB.get? env.locals = none
 baseC : ∀ n c, env.cells.lookup n = some c → C.hB.get? c = none
 dist : env.cells.Pairwise fun x y => x.2 ≠ y.2
 has : ∀ n, env.kindOf n = some .cell ∨ env.kindOf n = some .free → ∃ c, env.cells.lookup n = some c
theorem FrameRel.step {C : Cx} {env : Env} {m : bg} {σ σ' : ai} {s : Shared} {h' : Heap} (F : FrameRel C env m σ s.heap) (R : RelG C σ s) (S : Step no σ σ' s.heap h') : FrameRel C env m σ' h' := by
 have kt := S.tupsN R
 have kc : ∀ c v, s.heap.IsCell c v → h'.IsCell c v := fun c v ⟨o, ho, hd⟩ => ⟨o, S.keep c o ho (by
  cases z : σ c with
  | none => rfl
  | some o' => obtain ⟨ob, h1, _, h3⟩ := (R.view c o' z).shape; rw [ho] at h1; cases h1; exact absurd hd (h3 v)) (fun z => z) (fun es ep z => by rw [hd] at z; cases z), hd⟩
 obtain ⟨mm, hn, hv⟩ := F.ns
 have hl : ∃ o, s.heap.get? env.locals = some o := let ⟨o, _, _, ho, _⟩ := hn; ⟨o, ho⟩
 refine ⟨⟨mm, Like.ns hn fun o e => S.keepL _ o e F.sepL (fun z => z), fun x v e k => ?_⟩, fun x v e => ?_, fun n c e => ?_, ?_, F.baseL, F.baseC, F.dist, F.has⟩
 ·obtain ⟨w, h1, h2⟩ := hv x v e k; exact ⟨w, h1, h2.keep kt⟩
 ·rcases F.cel x v e with q | ⟨q, c, w, h1, h2, h3⟩
  ·exact .inl q
  ·exact .inr ⟨q, c, w, h1, kc _ _ h2, h3.keep kt⟩
 ·obtain ⟨v, hv⟩ := F.cells n c e; exact ⟨v, kc _ _ hv⟩
 ·cases z : σ' env.locals with
  | none => rfl
  | some o => obtain ⟨ol, hol⟩ := hl; have := S.new env.locals F.sepL (by rw [z]; simp); exact absurd (Heap.lt_size hol) (Nat.not_lt.mpr this)
structure AOk (C : Cx) (A : Around) (k : Nat) : Prop where
 handled : A.handled = C.held.map Value.ref
 depth : A.depth + 3 * k + 3 < recursionLimit
 units : A.units + 10 * k + 20 < cLine
theorem AOk.le {C : Cx} {A : Around} {k j : Nat} (x : AOk C A k) (h : j ≤ k) : AOk C A j := ⟨x.handled, Nat.lt_of_le_of_lt (Nat.add_le_add_right (Nat.add_le_add_left (Nat.mul_le_mul_left 3 h) _) _) x.depth, Nat.lt_of_le_of_lt (Nat.add_le_add_right (Nat.add_le_add_left (Nat.mul_le_mul_left 10 h) _) _) x.units⟩
theorem AOk.none {C : Cx} {A : Around} {k : Nat} (x : AOk C A k) (hp : C.held = none) : A.handled = none := by rw [x.handled, hp]; rfl
structure EnvOk (env : Env) (sc : Scope) : Prop where
 scope : env.scope = sc
 kind : sc.kind = .function
 globals : env.globals = mainGlobals
 builtins : env.builtins = builtinsNs
theorem EnvOk.k {env : Env} {sc : Scope} (e : EnvOk env sc) : env.scope.kind = .function := by rw [e.scope]; exact e.kind
theorem EnvOk.of {env : Env} {sc : Scope} (e : EnvOk env sc) {x : Str} {n : Option NameKind} (h : sc.names.lookup x = n) : env.kindOf x = n := by unfold Env.kindOf; rw [e.scope]; exact h
abbrev ET := bg → ai → (V → ai → Prop) → Prop
abbrev BT := bg → ai → (Bool → ai → Prop) → Prop
abbrev LT := bg → ai → (List V → ai → Prop) → Prop
structure HE (C : Cx) (sc : Scope) (k : Nat) (e : Expr) (T : ET) : Prop where
 run : ∀ (env : Env) (A : Around) (s : Shared) (m : bg) (σ : ai) (Q : V → ai → Prop) (P : Value → Shared → Prop) (E : Value → Shared → Prop),
  EnvOk env sc → AOk C A k → RelG C σ s → FrameRel C env m σ s.heap → T m σ Q →
  (∀ v w σ' s', VRel C.aS s'.heap v w → RelG C σ' s' → Step no σ σ' s.heap s'.heap → Q v σ' → P w s') →
  wpAny (model C.prog C.w) A (eval e env) P E s
structure HB (C : Cx) (sc : Scope) (k : Nat) (e : Expr) (T : BT) : Prop where
 run : ∀ (env : Env) (A : Around) (s : Shared) (m : bg) (σ : ai) (Q : Bool → ai → Prop) (P : Bool → Shared → Prop) (E : Value → Shared → Prop),
  EnvOk env sc → AOk C A k → RelG C σ s → FrameRel C env m σ s.heap → T m σ Q →
  (∀ b σ' s', RelG C σ' s' → Step no σ σ' s.heap s'.heap → Q b σ' → P b s') →
  wpAny (model C.prog C.w) A (isTrue e env (eval e env)) P E s
structure HL (C : Cx) (sc : Scope) (k : Nat) (es : List Expr) (T : LT) : Prop where
 run : ∀ (env : Env) (A : Around) (s : Shared) (m : bg) (σ : ai) (pos : Pos) (Q : List V → ai → Prop) (P : List Value → Shared → Prop) (E : Value → Shared → Prop),
  EnvOk env sc → AOk C A k → RelG C σ s → FrameRel C env m σ s.heap → T m σ Q →
  (∀ vs ws σ' s', VRels C.aS s'.heap vs ws → RelG C σ' s' → Step no σ σ' s.heap s'.heap → Q vs σ' → P ws s') →
  wpAny (model C.prog C.w) A (spliced (backTo pos (starEach es env))) P E s
section
variable {C : Cx} {sc : Scope} {k : Nat}
noncomputable def atK {α : Type} (o : Option α) (F : α → Prop) : Prop := match o with | some v => F v | none => False
theorem atK.elim {α : Type} {o : Option α} {F : α → Prop} (h : atK o F) : ∃ v, o = some v ∧ F v := by
 cases o with
 | none => exact False.elim h
 | some v => exact ⟨v, rfl, h⟩
noncomputable def isB (v : V) (F : Bool → Prop) : Prop := match v with | .bool b => F b | _ => False
theorem isB.elim {v : V} {F : Bool → Prop} (h : isB v F) : ∃ b, v = .bool b ∧ F b := by
 cases v <;> first | exact False.elim h | exact ⟨_, rfl, h⟩
noncomputable def on1 (vs : List V) (F : V → Prop) : Prop := match vs with | [a] => F a | _ => False
theorem on1.elim {vs : List V} {F : V → Prop} (h : on1 vs F) : ∃ a, vs = [a] ∧ F a := by
 rcases vs with _ | ⟨a, _ | ⟨b, r⟩⟩
 ·exact False.elim h
 ·exact ⟨a, rfl, h⟩
 ·exact False.elim h
noncomputable def on2 (vs : List V) (F : V → V → Prop) : Prop := match vs with | a :: r => on1 r (F a) | _ => False
theorem on2.elim {vs : List V} {F : V → V → Prop} (h : on2 vs F) : ∃ a b, vs = [a, b] ∧ F a b := by
 rcases vs with _ | ⟨a, r⟩
 ·exact False.elim h
 ·obtain ⟨b, rfl, h⟩ := on1.elim h; exact ⟨a, b, rfl, h⟩
noncomputable def isS (v : V) (F : Str → Prop) : Prop := match v with | .str x => F x | _ => False
theorem isS.elim {v : V} {F : Str → Prop} (h : isS v F) : ∃ x, v = .str x ∧ F x := by
 cases v <;> first | exact False.elim h | exact ⟨_, rfl, h⟩
noncomputable def isI (v : V) (F : Int → Prop) : Prop := match v with | .int x => F x | _ => False
theorem isI.elim {v : V} {F : Int → Prop} (h : isI v F) : ∃ x, v = .int x ∧ F x := by
 cases v <;> first | exact False.elim h | exact ⟨_, rfl, h⟩
noncomputable def isR (v : V) (F : Addr → Prop) : Prop := match v with | .ref x => F x | _ => False
theorem isR.elim {v : V} {F : Addr → Prop} (h : isR v F) : ∃ x, v = .ref x ∧ F x := by
 cases v <;> first | exact False.elim h | exact ⟨_, rfl, h⟩
noncomputable def isT (v : V) (F : String → Prop) : Prop := match v with | .ty x => F x | _ => False
theorem isT.elim {v : V} {F : String → Prop} (h : isT v F) : ∃ x, v = .ty x ∧ F x := by
 cases v <;> first | exact False.elim h | exact ⟨_, rfl, h⟩
noncomputable def onR (vs : List V) (F : Addr → Prop) : Prop := on1 vs fun a => isR a fun x => F x
theorem onR.elim {vs : List V} {F : Addr → Prop} (h : onR vs F) : ∃ x, vs = [.ref x] ∧ F x := by
 obtain ⟨a, rfl, h⟩ := on1.elim h
 obtain ⟨x, rfl, h⟩ := isR.elim h
 exact ⟨x, rfl, h⟩
noncomputable def onI (vs : List V) (F : Int → Prop) : Prop := on1 vs fun a => isI a fun x => F x
theorem onI.elim {vs : List V} {F : Int → Prop} (h : onI vs F) : ∃ x, vs = [.int x] ∧ F x := by
 obtain ⟨a, rfl, h⟩ := on1.elim h
 obtain ⟨x, rfl, h⟩ := isI.elim h
 exact ⟨x, rfl, h⟩
noncomputable def onRS (vs : List V) (F : Addr → Str → Prop) : Prop := on2 vs fun a b => isR a fun x => isS b fun y => F x y
theorem onRS.elim {vs : List V} {F : Addr → Str → Prop} (h : onRS vs F) : ∃ x y, vs = [.ref x, .str y] ∧ F x y := by
 obtain ⟨a, b, rfl, h⟩ := on2.elim h
 obtain ⟨x, rfl, h⟩ := isR.elim h
 obtain ⟨y, rfl, h⟩ := isS.elim h
 exact ⟨x, y, rfl, h⟩
noncomputable def onSS (vs : List V) (F : Str → Str → Prop) : Prop := on2 vs fun a b => isS a fun x => isS b fun y => F x y
theorem onSS.elim {vs : List V} {F : Str → Str → Prop} (h : onSS vs F) : ∃ x y, vs = [.str x, .str y] ∧ F x y := by
 obtain ⟨a, b, rfl, h⟩ := on2.elim h
 obtain ⟨x, rfl, h⟩ := isS.elim h
 obtain ⟨y, rfl, h⟩ := isS.elim h
 exact ⟨x, y, rfl, h⟩
noncomputable def onII (vs : List V) (F : Int → Int → Prop) : Prop := on2 vs fun a b => isI a fun x => isI b fun y => F x y
theorem onII.elim {vs : List V} {F : Int → Int → Prop} (h : onII vs F) : ∃ x y, vs = [.int x, .int y] ∧ F x y := by
 obtain ⟨a, b, rfl, h⟩ := on2.elim h
 obtain ⟨x, rfl, h⟩ := isI.elim h
 obtain ⟨y, rfl, h⟩ := isI.elim h
 exact ⟨x, y, rfl, h⟩
noncomputable def onSR (vs : List V) (F : Str → Addr → Prop) : Prop := on2 vs fun a b => isS a fun x => isR b fun y => F x y
theorem onSR.elim {vs : List V} {F : Str → Addr → Prop} (h : onSR vs F) : ∃ x y, vs = [.str x, .ref y] ∧ F x y := by
 obtain ⟨a, b, rfl, h⟩ := on2.elim h
 obtain ⟨x, rfl, h⟩ := isS.elim h
 obtain ⟨y, rfl, h⟩ := isR.elim h
 exact ⟨x, y, rfl, h⟩
noncomputable def onRV (vs : List V) (F : Addr → V → Prop) : Prop := on2 vs fun a b => isR a fun x => F x b
theorem onRV.elim {vs : List V} {F : Addr → V → Prop} (h : onRV vs F) : ∃ x y, vs = [.ref x, y] ∧ F x y := by
 obtain ⟨a, b, rfl, h⟩ := on2.elim h
 obtain ⟨x, rfl, h⟩ := isR.elim h
 exact ⟨x, b, rfl, h⟩
noncomputable def onVT (vs : List V) (F : V → String → Prop) : Prop := on2 vs fun a b => isT b fun y => F a y
theorem onVT.elim {vs : List V} {F : V → String → Prop} (h : onVT vs F) : ∃ x y, vs = [x, .ty y] ∧ F x y := by
 obtain ⟨a, b, rfl, h⟩ := on2.elim h
 obtain ⟨y, rfl, h⟩ := isT.elim h
 exact ⟨a, y, rfl, h⟩
noncomputable def ae (x : String) : ET := fun m σ Q => atK (m x) fun v => Q v σ
theorem ac {x : String} {pos : Pos} (h : sc.names.lookup (Str.ofString x) = some .local) (hd : (Str.ofString x == ("__debug__" : Str)) = false) : HE C sc k (.Name (Str.ofString x) pos) (ae x) := by
 refine ⟨?_⟩; intro env A s m σ Q P E en ao R F q₀ hP
 obtain ⟨v, hv, q⟩ := q₀.elim
 obtain ⟨mm, hn, hm⟩ := F.ns
 obtain ⟨w, hw, hr⟩ := hm x v hv (en.of h)
 exact wpAny_Name (wpAny_loadName_local en.k (en.of h) hn hw (hP v w σ s hr R Step.refl q)) hd
theorem aM {x : String} {pos : Pos} (h : sc.names.lookup (Str.ofString x) = some .cell) (hd : (Str.ofString x == ("__debug__" : Str)) = false) : HE C sc k (.Name (Str.ofString x) pos) (ae x) := by
 refine ⟨?_⟩; intro env A s m σ Q P E en ao R F q₀ hP
 obtain ⟨v, hv, q⟩ := q₀.elim
 have kk := en.of h
 rcases F.cel x v hv with z | ⟨_, c, w, h1, h2, h3⟩
 ·rw [kk] at z; cases z
 ·exact wpAny_Name (wpAny_loadName_cell en.k kk h1 h2 (hP v w σ s h3 R Step.refl q)) hd
noncomputable def aE (v : V) : ET := fun _ σ Q => Q v σ
theorem qT (O : C.Ok) {x : String} {pos : Pos} {v : V} {w : Value} (h : sc.names.lookup (Str.ofString x) = some .globalImplicit) (hg : C.mg (Str.ofString x) = some w) (hv : ∀ h, VRel C.aS h v w) (hd : (Str.ofString x == ("__debug__" : Str)) = false) :
  HE C sc k (.Name (Str.ofString x) pos) (aE v) := by
 refine ⟨?_⟩; intro env A s m σ Q P E en ao R F q hP
 exact Calls.Name_function_global en.k (en.of h) (Calls.loadGlobal_global (mg := C.mg) (by rw [en.globals]; exact O.g.keeps R.base) hg (hP v w σ s (hv _) R Step.refl q)) hd
theorem aL {i : Int} {n : Nat} {pos : Pos} : HE C sc k (.Constant (.int i) n pos) (aE (.int i)) := by
 refine ⟨?_⟩; intro env A s m σ Q P E en ao R F q hP
 exact wpAny_Constant_int (hP _ _ σ _ (.int i _) (R.tok _) (Step.refl) q)
theorem c9 {x : Str} {n : Nat} {pos : Pos} : HE C sc k (.Constant (.str x) n pos) (aE (.str x)) := by
 refine ⟨?_⟩; intro env A s m σ Q P E en ao R F q hP
 exact Calls.Constant_str (hP _ _ σ _ (.str x _) (R.tok _) (Step.refl) q)
theorem bc {b : Bool} {n : Nat} {pos : Pos} : HE C sc k (.Constant (.bool b) n pos) (aE (.bool b)) := by
 refine ⟨?_⟩; intro env A s m σ Q P E en ao R F q hP
 exact wpAny_Constant_bool (hP _ _ σ _ (.bool b) R (Step.refl) q)
theorem jP {n : Nat} {pos : Pos} : HE C sc k (.Constant .none n pos) (aE .none) := by
 refine ⟨?_⟩; intro env A s m σ Q P E en ao R F q hP
 exact wpAny_Constant_none (hP _ _ σ _ .none R (Step.refl) q)
theorem nu (O : C.Ok) {x n : String} {pos : Pos} (h : sc.names.lookup (Str.ofString x) = some .globalImplicit) (hg : C.mg (Str.ofString x) = Option.none) (hb : C.mb (Str.ofString x) = some (.type n)) (hd : (Str.ofString x == ("__debug__" : Str)) = false) :
  HE C sc k (.Name (Str.ofString x) pos) (aE (.ty n)) := by
 refine ⟨?_⟩; intro env A s m σ Q P E en ao R F q hP
 exact Calls.Name_function_global en.k (en.of h) (Calls.loadGlobal_builtin (mg := C.mg) (mb := C.mb) (by rw [en.globals]; exact O.g.keeps R.base) hg (by rw [en.builtins]; exact O.b.keeps R.base) hb (hP _ _ σ s (.ty n) R Step.refl q)) hd
noncomputable def av : LT := fun _ σ Q => Q [] σ
noncomputable def ah (T : ET) (L : LT) : LT := fun m σ Q => T m σ fun v σ₁ => L m σ₁ fun vs σ₂ => Q (v :: vs) σ₂
theorem aj : HL C sc k [] av := by
 refine ⟨?_⟩; intro env A s m σ pos Q P E en ao R F q hP
 exact Calls.spliced_nil (hP [] [] σ s .nil R Step.refl q)
noncomputable def jG : Expr → Bool
 | .Starred .. => false
 | _ => true
theorem cJ {e : Expr} {rest : List Expr} {env : Env} (h : jG e = true) : starEach (e :: rest) env = (false, eval e env) :: starEach rest env := by
 cases e <;> first | rfl | cases h
theorem af {e : Expr} {es : List Expr} {T : ET} {L : LT} (he : HE C sc k e T) (hl : HL C sc k es L) (hs : jG e = true) : HL C sc k (e :: es) (ah T L) := by
 refine ⟨?_⟩; intro env A s m σ pos Q P E en ao R F q hP
 rw [cJ hs]
 show wpAny _ A (spliced ((false, eval e env) :: backTo pos (starEach es env))) P E s
 refine Calls.spliced_cons (he.run env A s m σ _ _ E en ao R F q fun v w σ₁ s₁ hv R₁ S₁ q₁ => ?_)
 exact hl.run env A s₁ m σ₁ pos _ _ E en ao R₁ (F.step R S₁) q₁ fun vs ws σ₂ s₂ hvs R₂ S₂ q₂ => hP _ _ σ₂ s₂ (.cons (hv.keep (S₂.tupsN R₁)) hvs) R₂ (S₁.trans S₂) q₂
noncomputable def fg (L : LT) : ET := fun m σ Q => L m σ fun vs σ₁ => vs.length ≤ 1000 ∧ Q (.tup vs) σ₁
theorem aX {h : Heap} {o : Obj} : ∀ b o', h.get? b = some o' → (h.push o).get? b = some o' := fun _ _ e => Heap.get?_push_of_some _ e
theorem c8 {es : List Expr} {L : LT} {n : Nat} {pos : Pos} (hl : HL C sc k es L) : HE C sc k (.Tuple es n pos) (fg L) := by
 refine ⟨?_⟩; intro env A s m σ Q P E en ao R F q hP
 show wpAny _ A (do standAt pos; newTuple (← spliced (backTo pos (starEach es env)))) P E s
 refine wpAny_bind (wpAny_standAt (wpAny_bind (hl.run env A s m σ pos _ _ E en ao R F q fun vs ws σ₁ s₁ hv R₁ S₁ q₁ => ?_)))
 have hlen := hv.length
 refine wpAny_newTuple (hP _ _ σ₁ _ (.tup (ws := ws) ⟨_, Heap.get?_push_size _ rfl, rfl, _, rfl⟩ (hv.keep fun _ _ e _ => aX _ _ e)) (R₁.grow aX) (S₁.trans .push) q₁.2) (by rw [← hlen, sizeLine_eq]; exact Nat.le_trans q₁.1 (by decide))
noncomputable def dc (xs : List V) (σ : ai) (Q : V → ai → Prop) : Prop := ∀ a, σ a = none → Q (.ref a) (aZ σ a (.list xs))
noncomputable def cq (L : LT) : ET := fun m σ Q => L m σ fun vs σ₁ => vs.length ≤ 1000 ∧ dc vs σ₁ Q
theorem bU {es : List Expr} {L : LT} {pos : Pos} (hl : HL C sc k es L) : HE C sc k (.List es pos) (cq L) := by
 refine ⟨?_⟩; intro env A s m σ Q P E en ao R F q hP
 show wpAny _ A (do standAt pos; newList (← spliced (backTo pos (starEach es env)))) P E s
 refine wpAny_bind (wpAny_standAt (wpAny_bind (hl.run env A s m σ pos _ _ E en ao R F q fun vs ws σ₁ s₁ hv R₁ S₁ q₁ => ?_)))
 have hlen := hv.length
 have hn := bV s₁.heap
 refine wpAny_newList (hP _ _ (aZ σ₁ s₁.heap.objs.size (.list vs)) _ (.ref _) (R₁.add (tk := s₁.toks) aX hn ⟨Nat.le_trans q₁.1 (by decide), ws, ⟨_, Heap.get?_push_size _ rfl⟩, hv.keep fun _ _ e _ => aX _ _ e⟩) (S₁.trans .addPush) (q₁.2 _ (R₁.freshNone hn))) (by rw [← hlen, sizeLine_eq]; exact Nat.le_trans q₁.1 (by decide))
end
end Mine
end
noncomputable section
namespace Mine
open PySem
abbrev O2 := V → V → ai → (V → ai → Prop) → Prop
abbrev O1 := V → ai → (V → ai → Prop) → Prop
abbrev uC (C : Cx) (σ : ai) (s : Shared) (Q : V → ai → Prop) (P : Value → Shared → Prop) : Prop :=
 ∀ v w σ' s', VRel C.aS s'.heap v w → RelG C σ' s' → Step no σ σ' s.heap s'.heap → Q v σ' → P w s'
noncomputable def gQ (C : Cx) (k : Nat) (t : Value → Value → Sem Value) (op : O2) : Prop :=
 ∀ (A : Around) (s : Shared) (σ : ai) (a b : V) (wa wb : Value) (Q : V → ai → Prop) (P E : Value → Shared → Prop), AOk C A k → RelG C σ s → VRel C.aS s.heap a wa → VRel C.aS s.heap b wb → op a b σ Q → uC C σ s Q P →
  wpAny (model C.prog C.w) A (t wa wb) P E s
noncomputable def yN (C : Cx) (k : Nat) (t : Value → Sem Value) (op : O1) : Prop :=
 ∀ (A : Around) (s : Shared) (σ : ai) (a : V) (wa : Value) (Q : V → ai → Prop) (P E : Value → Shared → Prop), AOk C A k → RelG C σ s → VRel C.aS s.heap a wa → op a σ Q → uC C σ s Q P →
  wpAny (model C.prog C.w) A (t wa) P E s
noncomputable def aB (op : O2) (T U : ET) : ET := fun m σ Q => T m σ fun a σ₁ => U m σ₁ fun b σ₂ => op a b σ₂ Q
noncomputable def tB (op : O1) (T : ET) : ET := fun m σ Q => T m σ fun a σ₁ => op a σ₁ Q
section
variable {C : Cx} {sc : Scope} {k : Nat}
theorem two {op : O2} {t : Value → Value → Sem Value} {T U : ET} {e f : Expr} (hop : gQ C k t op) (he : HE C sc k e T) (hf : HE C sc k f U) {env : Env} {A : Around} {s : Shared} {m : bg} {σ : ai} {Q : V → ai → Prop} {P E : Value → Shared → Prop}
  (en : EnvOk env sc) (ao : AOk C A k) (R : RelG C σ s) (F : FrameRel C env m σ s.heap) (q : aB op T U m σ Q) (hP : uC C σ s Q P) :
  wpAny (model C.prog C.w) A (eval e env) (fun a s₁ => wpAny (model C.prog C.w) A (eval f env) (fun b s₂ => wpAny (model C.prog C.w) A (t a b) P E s₂) E s₁) E s :=
 he.run env A s m σ _ _ E en ao R F q fun a wa σ₁ s₁ va R₁ S₁ q₁ =>
  hf.run env A s₁ m σ₁ _ _ E en ao R₁ (F.step R S₁) q₁ fun b wb σ₂ s₂ vb R₂ S₂ q₂ =>
   hop A s₂ σ₂ a b wa wb Q P E ao R₂ (va.keep (S₂.tupsN R₁)) vb q₂ fun v w σ' s' hv R' S' q' => hP v w σ' s' hv R' ((S₁.trans S₂).trans S') q'
theorem bf {op : O2} {o : Operator} {l r : Expr} {pos : Pos} {T U : ET} (hop : gQ C k (binaryOp o) op) (hl : HE C sc k l T) (hr : HE C sc k r U) : HE C sc k (.BinOp l o r pos) (aB op T U) := by
 refine ⟨?_⟩; intro env A s m σ Q P E en ao R F q hP
 exact wpAny_BinOp (two hop hl hr en ao R F q hP)
theorem hX {op : O2} {o : CmpOp} {l r : Expr} {pos : Pos} {T U : ET} (hop : gQ C k (compareOp o) op) (hl : HE C sc k l T) (hr : HE C sc k r U) (hm : behindInMarks o r = false) : HE C sc k (.Compare l [o] [r] pos) (aB op T U) := by
 refine ⟨?_⟩; intro env A s m σ Q P E en ao R F q hP
 exact wpAny_Compare1 (two hop hl hr en ao R F q hP) hm
theorem lR {op : O1} {o : UnaryOp} {e : Expr} {pos : Pos} {T : ET} (hop : yN C k (unaryOp o) op) (he : HE C sc k e T) : HE C sc k (.UnaryOp o e pos) (tB op T) := by
 refine ⟨?_⟩; intro env A s m σ Q P E en ao R F q hP
 exact wpAny_UnaryOp (he.run env A s m σ _ _ E en ao R F q fun a wa σ₁ s₁ va R₁ S₁ q₁ =>
  hop A s₁ σ₁ a wa Q P E ao R₁ va q₁ fun v w σ' s' hv R' S' q' => hP v w σ' s' hv R' (S₁.trans S') q')
noncomputable def aH (T : ET) : BT := fun m σ Q => T m σ fun v σ' => isB v fun b => Q b σ'
theorem aT {op : O2} {o : CmpOp} {l r : Expr} {pos : Pos} {T U : ET} (hop : gQ C k (compareOp o) op) (hl : HE C sc k l T) (hr : HE C sc k r U) (hm : behindInMarks o r = false) : HB C sc k (.Compare l [o] [r] pos) (aH (aB op T U)) := by
 refine ⟨?_⟩; intro env A s m σ Q P E en ao R F q hP
 refine wpAny_isTrue_Compare1 (two (P := fun c s₃ => wpAny _ A (truthy c) P E s₃) hop hl hr en ao R F q fun v w σ' s' hv R' S' q' => ?_) hm
 replace q' := q'.elim
 obtain ⟨b, rfl, q'⟩ := q'
 cases hv
 exact wpAny_truthy_bool (hP b σ' s' R' S' q')
noncomputable def nF (o1 o2 : O2) (T U W : ET) : BT := fun m σ Q => T m σ fun a σ₁ => U m σ₁ fun b σ₂ => o1 a b σ₂ fun v σ₃ => isB v fun x => if x then W m σ₃ fun c σ₄ => o2 b c σ₄ fun u σ₅ => isB u fun y => Q y σ₅ else Q false σ₃
theorem nv {p1 p2 : O2} {o1 o2 : CmpOp} {l r z : Expr} {pos : Pos} {T U W : ET} (h1 : gQ C k (compareOp o1) p1) (h2 : gQ C k (compareOp o2) p2) (hl : HE C sc k l T) (hr : HE C sc k r U) (hz : HE C sc k z W) (hm : behindInMarks o2 z = false) :
  HB C sc k (.Compare l [o1, o2] [r, z] pos) (nF p1 p2 T U W) := by
 refine ⟨?_⟩; intro env A s m σ Q P E en ao R F q hP
 show wpAny _ A (do testChain pos (← eval l env) [o1, o2] [eval r env, markedBehindIn o2 z (eval z env)]) P E s
 rw [markedBehindIn_of_false hm]
 refine wpAny_bind (hl.run env A s m σ _ _ E en ao R F q fun a wa σ₁ s₁ va R₁ S₁ q₁ => ?_)
 show wpAny _ A (do
  let rv ← holding [wa] (eval r env)
  standAt pos
  let c ← holding [wa, rv] (compareOp o1 wa rv)
  release [wa, rv] [c]
  if ← holding [c, rv] (truthy c) then testChain pos rv [o2] [eval z env] else pure false) P E s₁
 refine wpAny_bind (wpAny_holding (hr.run env A s₁ m σ₁ _ _ E en ao R₁ (F.step R S₁) q₁ fun b wb σ₂ s₂ vb R₂ S₂ q₂ => ?_))
 refine wpAny_bind (wpAny_standAt (wpAny_bind (wpAny_holding ?_)))
 refine h1 A s₂ σ₂ a b wa wb _ _ E ao R₂ (va.keep (S₂.tupsN R₁)) vb q₂ fun v w σ₃ s₃ hv R₃ S₃ q₃ => ?_
 replace q₃ := q₃.elim
 obtain ⟨x, rfl, q₃⟩ := q₃
 cases hv
 refine wpAny_bind ?_
 intro Γ p hΓ
 rw [Sem.wp_release]
 refine wpAny_bind (wpAny_holding (wpAny_truthy_bool ?_))
 have S₁₃ := (S₁.trans S₂).trans S₃
 cases x with
 | false => exact wpAny_pure (hP false σ₃ s₃ R₃ S₁₃ (by simpa using q₃))
 | true =>
  simp only [if_true] at q₃ ⊢
  show wpAny _ A (do
   let rv ← holding [wb] (eval z env)
   standAt pos
   let c ← operate [wb, rv] (compareOp o2 wb rv)
   holding [c] (truthy c)) P E s₃
  refine wpAny_bind (wpAny_holding (hz.run env A s₃ m σ₃ _ _ E en ao R₃ (F.step R S₁₃) q₃ fun c wc σ₄ s₄ vc R₄ S₄ q₄ => ?_))
  refine wpAny_bind (wpAny_standAt (wpAny_bind (wpAny_operating ?_)))
  refine h2 A s₄ σ₄ b c wb wc _ _ E ao R₄ ((vb.keep (S₃.tupsN R₂)).keep (S₄.tupsN R₃)) vc q₄ fun v w σ₅ s₅ hv R₅ S₅ q₅ => ?_
  replace q₅ := q₅.elim
  obtain ⟨y, rfl, q₅⟩ := q₅
  cases hv
  exact wpAny_holding (wpAny_truthy_bool (hP y σ₅ s₅ R₅ ((S₁₃.trans S₄).trans S₅) q₅))
theorem bM {e : Expr} {T : ET} (he : HE C sc k e T) (hi : ∀ env whole, isTrue e env whole = (do let v ← whole; standAt e.pos; holding [v] (truthy v))) : HB C sc k e (aH T) := by
 refine ⟨?_⟩; intro env A s m σ Q P E en ao R F q hP
 refine wpAny_isTrue_value (he.run env A s m σ _ _ E en ao R F q fun v w σ' s' hv R' S' q' => ?_) (hi env _)
 replace q' := q'.elim
 obtain ⟨b, rfl, q'⟩ := q'
 cases hv
 exact wpAny_truthy_bool (hP b σ' s' R' S' q')
noncomputable def dq (T : BT) : BT := fun m σ Q => T m σ fun b σ' => Q (!b) σ'
theorem b8 {e : Expr} {pos : Pos} {T : BT} (he : HB C sc k e T) : HB C sc k (.UnaryOp .Not e pos) (dq T) := by
 refine ⟨?_⟩; intro env A s m σ Q P E en ao R F q hP
 exact wpAny_isTrue_Not (he.run env A s m σ _ _ E en ao R F q fun b σ' s' R' S' q' => hP (!b) σ' s' R' S' q')
structure HBs (C : Cx) (sc : Scope) (k : Nat) (op : BoolOp) (es : List Expr) (T : BT) : Prop where
 run : ∀ (env : Env) (A : Around) (s : Shared) (m : bg) (σ : ai) (Q : Bool → ai → Prop) (P : Bool → Shared → Prop) (E : Value → Shared → Prop),
  EnvOk env sc → AOk C A k → RelG C σ s → FrameRel C env m σ s.heap → T m σ Q →
  (∀ b σ' s', RelG C σ' s' → Step no σ σ' s.heap s'.heap → Q b σ' → P b s') →
  wpAny (model C.prog C.w) A (allTrue op es env) P E s
noncomputable def tT : BT := fun _ σ Q => Q true σ
noncomputable def tF : BT := fun _ σ Q => Q false σ
noncomputable def ie (T U : BT) : BT := fun m σ Q => T m σ fun b σ' => if b then U m σ' Q else Q false σ'
noncomputable def gg (T U : BT) : BT := fun m σ Q => T m σ fun b σ' => if b then Q true σ' else U m σ' Q
theorem fD : HBs C sc k .And [] tT := ⟨fun _ _ s _ σ _ _ _ _ _ R _ q hP => wpAny_allTrue_And_nil (hP true σ s R Step.refl q)⟩
theorem bX : HBs C sc k .Or [] tF := ⟨fun _ _ s _ σ _ _ _ _ _ R _ q hP => wpAny_allTrue_Or_nil (hP false σ s R Step.refl q)⟩
theorem eg {e : Expr} {es : List Expr} {T U : BT} (he : HB C sc k e T) (hs : HBs C sc k .And es U) : HBs C sc k .And (e :: es) (ie T U) := by
 refine ⟨?_⟩; intro env A s m σ Q P E en ao R F q hP
 refine wpAny_allTrue_And_cons (he.run env A s m σ _ _ E en ao R F q fun b σ' s' R' S' q' => ?_)
 cases b with
 | false => simpa using hP false σ' s' R' S' (by simpa using q')
 | true => simp only [if_true] at q' ⊢; exact hs.run env A s' m σ' Q P E en ao R' (F.step R S') q' fun b σ₂ s₂ R₂ S₂ q₂ => hP b σ₂ s₂ R₂ (S'.trans S₂) q₂
theorem bu {e : Expr} {es : List Expr} {T U : BT} (he : HB C sc k e T) (hs : HBs C sc k .Or es U) : HBs C sc k .Or (e :: es) (gg T U) := by
 refine ⟨?_⟩; intro env A s m σ Q P E en ao R F q hP
 refine wpAny_allTrue_Or_cons (he.run env A s m σ _ _ E en ao R F q fun b σ' s' R' S' q' => ?_)
 cases b with
 | true => simpa using hP true σ' s' R' S' (by simpa using q')
 | false => simp only [Bool.false_eq_true, if_false] at q' ⊢; exact hs.run env A s' m σ' Q P E en ao R' (F.step R S') q' fun b σ₂ s₂ R₂ S₂ q₂ => hP b σ₂ s₂ R₂ (S'.trans S₂) q₂
theorem bB {op : BoolOp} {es : List Expr} {pos : Pos} {T : BT} (h : HBs C sc k op es T) : HB C sc k (.BoolOp op es pos) T := by
 refine ⟨?_⟩; intro env A s m σ Q P E en ao R F q hP
 exact wpAny_isTrue_BoolOp (h.run env A s m σ Q P E en ao R F q hP)
structure HVs (C : Cx) (sc : Scope) (k : Nat) (op : BoolOp) (es : List Expr) (T : ET) : Prop where
 run : ∀ (env : Env) (A : Around) (s : Shared) (m : bg) (σ : ai) (pos : Pos) (Q : V → ai → Prop) (P : Value → Shared → Prop) (E : Value → Shared → Prop),
  EnvOk env sc → AOk C A k → RelG C σ s → FrameRel C env m σ s.heap → T m σ Q → uC C σ s Q P → wpAny (model C.prog C.w) A (boolOp pos op (evalEach es env)) P E s
theorem iL {op : BoolOp} {e : Expr} {T : ET} (he : HE C sc k e T) : HVs C sc k op [e] T := by
 refine ⟨?_⟩; intro env A s m σ pos Q P E en ao R F q hP
 exact he.run env A s m σ Q P E en ao R F q hP
noncomputable def lb (T U : ET) : ET := fun m σ Q => T m σ fun v σ' => isB v fun b => if b then U m σ' Q else Q (.bool false) σ'
theorem d9 {e f : Expr} {es : List Expr} {T U : ET} (he : HE C sc k e T) (hs : HVs C sc k .And (f :: es) U) : HVs C sc k .And (e :: f :: es) (lb T U) := by
 refine ⟨?_⟩; intro env A s m σ pos Q P E en ao R F q hP
 show wpAny _ A (do
  let v ← eval e env
  standAt pos
  let t ← holding [v] (truthy v)
  match BoolOp.And, t with
  | .And, false | .Or, true => pure v
  | _, _ => boolOp pos .And (evalEach (f :: es) env)) P E s
 refine wpAny_bind (he.run env A s m σ _ _ E en ao R F q fun v w σ' s' hv R' S' q' => wpAny_bind (wpAny_standAt (wpAny_bind (wpAny_holding ?_))))
 replace q' := q'.elim
 obtain ⟨b, rfl, q'⟩ := q'
 cases hv
 refine wpAny_truthy_bool ?_
 cases b with
 | false => exact wpAny_pure (hP _ _ σ' s' (.bool false) R' S' (by simpa using q'))
 | true => simp only [if_true] at q'; exact hs.run env A s' m σ' pos Q P E en ao R' (F.step R S') q' fun v w σ₂ s₂ hv R₂ S₂ q₂ => hP v w σ₂ s₂ hv R₂ (S'.trans S₂) q₂
theorem eW {op : BoolOp} {es : List Expr} {pos : Pos} {T : ET} (h : HVs C sc k op es T) : HE C sc k (.BoolOp op es pos) T := by
 refine ⟨?_⟩; intro env A s m σ Q P E en ao R F q hP
 exact h.run env A s m σ pos Q P E en ao R F q hP
theorem qf {op : O2} {value slice : Expr} {pos : Pos} {T U : ET} (hv : HE C sc k value T) (hi : HE C sc k slice U)
  (hop : gQ C k (fun o i => getitemInPython o >>= fun b => subscripted slice b o i) op) : HE C sc k (.Subscript value slice pos) (aB op T U) := by
 refine ⟨?_⟩; intro env A s m σ Q P E en ao R F q hP
 show wpAny _ A (do
  let o ← eval value env
  let i ← holding [o] (eval slice env)
  standAt pos
  let r ← subscripted slice (← getitemInPython o) o i
  letTemporaryGo value o r
  pure r) P E s
 refine wpAny_bind (wpAny_mono (two (P := P) (E := E) hop hv hi en ao R F q hP) (fun o s₁ h₁ => wpAny_bind (wpAny_holding (wpAny_mono h₁ (fun i s₂ h₂ => wpAny_bind (wpAny_standAt ?_)) fun _ _ x => x))) fun _ _ x => x)
 have h₃ : wpAny (model C.prog C.w) A ((getitemInPython o >>= fun b => subscripted slice b o i) >>= fun r => letTemporaryGo value o r >>= fun _ => pure r) P E s₂ :=
  wpAny_bind (wpAny_mono h₂ (fun r s₃ hr => wpAny_bind (wpAny_letTemporaryGo (wpAny_pure hr))) fun _ _ x => x)
 rwa [bind_assoc] at h₃
end
end Mine
end
noncomputable section
namespace Mine
open PySem
noncomputable def pc (i : Int) : Prop := i.natAbs < 2 ^ 64
theorem v8 {i : Int} {n : Nat} (h : 0 < i) (h2 : i < n) : i.natAbs < n := by obtain ⟨m, rfl⟩ := Int.eq_ofNat_of_zero_le (Int.le_of_lt h); exact Int.ofNat_lt.mp h2
theorem gF {i : Int} (h : pc i) : Builtin.Int.intBits i ≤ 64 := by
 unfold Builtin.Int.intBits
 split
 ·decide
 ·rename_i hn
  have h0 : i.natAbs ≠ 0 := by
   intro e
   have : i = 0 := Int.natAbs_eq_zero.mp e
   simp [this] at hn
  have := (Nat.log2_lt h0).mpr h
  exact this
theorem gq {α : Type} [DecidableEq α] (a b : α) : (a == b) = decide (a = b) := by
 by_cases h : a = b
 ·subst h; simp
 ·simp [h]
section
variable {C : Cx} {k : Nat}
noncomputable def jZ : O2
 | .int x, .int y, σ, Q => Q (.int (x - y)) σ
 | _, _, _, _ => False
theorem j4 : gQ C k (binaryOp .Sub) jZ := by
 intro A s σ a b wa wb Q P E ao R va vb q hP
 cases a <;> first | exact q.elim | skip
 cases b <;> first | exact q.elim | skip
 cases va; cases vb
 exact _root_.PySem.P.sub_int (hP _ _ σ _ (.int _ _) (R.tok _) Step.refl q)
noncomputable def dM : O2
 | .int x, .int y, σ, Q => 0 < y ∧ Q (.int (x % y)) σ
 | _, _, _, _ => False
theorem dO : gQ C k (binaryOp .Mod) dM := by
 intro A s σ a b wa wb Q P E ao R va vb q hP
 cases a <;> first | exact q.elim | skip
 cases b <;> first | exact q.elim | skip
 cases va; cases vb
 rename_i x t y u
 obtain ⟨hy, q⟩ := q
 refine PyProof.Rows.mod_int' (by exact Int.ne_of_gt hy) ?_
 rw [Int.fmod_eq_emod_of_nonneg _ (by exact Int.le_of_lt hy)]
 exact hP _ _ σ _ (.int _ _) (R.tok _) Step.refl q
noncomputable def lq : O2
 | .int x, .int y, σ, Q => (0 < y ∧ y < 1073741824) ∧ Q (.int (x / y)) σ
 | _, _, _, _ => False
theorem mn : gQ C k (binaryOp .FloorDiv) lq := by
 intro A s σ a b wa wb Q P E ao R va vb q hP
 cases a <;> first | exact q.elim | skip
 cases b <;> first | exact q.elim | skip
 cases va; cases vb
 obtain ⟨hy, q⟩ := q
 refine PyProof.Rows.floordiv_int (by exact Int.ne_of_gt hy.1) ?_ (.inl (PyProof.noPylong_small (v8 (n := 1073741824) hy.1 hy.2)))
 rw [Int.fdiv_eq_ediv_of_nonneg _ (by exact Int.le_of_lt hy.1)]
 exact hP _ _ σ _ (.int _ _) (R.tok _) Step.refl q
noncomputable def sq : O2
 | .int x, .int y, σ, Q => (pc x ∨ pc y) ∧ Q (.int (x * y)) σ
 | _, _, _, _ => False
theorem vp : gQ C k (binaryOp .Mult) sq := by
 intro A s σ a b wa wb Q P E ao R va vb q hP
 cases a <;> first | exact q.elim | skip
 cases b <;> first | exact q.elim | skip
 cases va; cases vb
 refine _root_.PySem.P.mul_int (hP _ _ σ _ (.int _ _) (R.tok _) Step.refl q.2) (q.1.elim (fun h => .of_left (gF h)) fun h => ?_)
 exact .of_right (gF h)
noncomputable def so : O2
 | .int x, .int y, σ, Q => (0 ≤ y ∧ (Builtin.Int.intBits x : Int) * y ≤ 2 ^ 27) ∧ Q (.int (x ^ y.toNat)) σ
 | _, _, _, _ => False
theorem vh : gQ C k (binaryOp .Pow) so := by
 intro A s σ a b wa wb Q P E ao R va vb q hP
 cases a <;> first | exact q.elim | skip
 cases b <;> first | exact q.elim | skip
 cases va; cases vb
 exact PyProof.Rows.pow_int q.1.1 q.1.2 (hP _ _ σ _ (.int _ _) (R.tok _) Step.refl q.2)
noncomputable def nS : O2
 | .int x, .int y, σ, Q => Q (.bool (decide (x < y))) σ
 | _, _, _, _ => False
noncomputable def ri : O2
 | .int x, .int y, σ, Q => Q (.bool (decide (x ≤ y))) σ
 | _, _, _, _ => False
noncomputable def sr : O2
 | .int x, .int y, σ, Q => Q (.bool (decide (x > y))) σ
 | _, _, _, _ => False
theorem nU : gQ C k (compareOp .Lt) nS := by
 intro A s σ a b wa wb Q P E ao R va vb q hP
 cases a <;> first | exact q.elim | skip
 cases b <;> first | exact q.elim | skip
 cases va; cases vb
 exact _root_.PySem.P.lt_int (hP _ _ σ _ (.bool _) R Step.refl q)
theorem qB : gQ C k (compareOp .LtE) ri := by
 intro A s σ a b wa wb Q P E ao R va vb q hP
 cases a <;> first | exact q.elim | skip
 cases b <;> first | exact q.elim | skip
 cases va; cases vb
 exact _root_.PySem.P.le_int (hP _ _ σ _ (.bool _) R Step.refl q)
theorem sA : gQ C k (compareOp .Gt) sr := by
 intro A s σ a b wa wb Q P E ao R va vb q hP
 cases a <;> first | exact q.elim | skip
 cases b <;> first | exact q.elim | skip
 cases va; cases vb
 exact _root_.PySem.P.gt_int (hP _ _ σ _ (.bool _) R Step.refl q)
noncomputable def io : O1
 | .int x, σ, Q => Q (.int (-x)) σ
 | _, _, _ => False
theorem j5 : yN C k (unaryOp .USub) io := by
 intro A s σ a wa Q P E ao R va q hP
 cases a <;> first | exact q.elim | skip
 cases va
 exact _root_.PySem.P.neg_int (hP _ _ σ _ (.int _ _) (R.tok _) Step.refl q)
noncomputable def veq0 : V → V → Option Bool
 | .none, .none => some true
 | .none, .str _ => some false
 | .str _, .none => some false
 | .bool a, .bool b => some (a == b)
 | .int a, .int b => some (decide (a = b))
 | .str a, .str b => some (decide (a = b))
 | _, _ => none
theorem veq0.ind {a b : V} {r : Bool} (h : veq0 a b = some r) {P : V → V → Bool → Prop} (c1 : P .none .none true) (c2 : ∀ y, P .none (.str y) false) (c3 : ∀ x, P (.str x) .none false)
  (c4 : ∀ x y, P (.bool x) (.bool y) (x == y)) (c5 : ∀ x y, P (.int x) (.int y) (decide (x = y))) (c6 : ∀ x y, P (.str x) (.str y) (decide (x = y))) : P a b r := by
 have w : ∀ {X : Prop}, (Option.none : Option Bool) = some r → X := fun e => by cases e
 have z : ∀ {c : Bool}, some c = some r → P a b c → P a b r := fun e => Option.some.inj e ▸ id
 cases a <;> first | exact w h | skip
 all_goals (cases b <;> first | exact w h | exact z h c1 | exact z h (c2 _) | exact z h (c3 _) | exact z h (c4 _ _) | exact z h (c5 _ _) | exact z h (c6 _ _))
noncomputable def bR : O2 := fun a b σ Q => atK (veq0 a b) fun r => Q (.bool r) σ
noncomputable def dv : O2 := fun a b σ Q => atK (veq0 a b) fun r => Q (.bool (!r)) σ
theorem ce : gQ C k (compareOp .Eq) bR := by
 intro A s σ a b wa wb Q P E ao R va vb q₀ hP
 obtain ⟨r, hr, q⟩ := q₀.elim
 clear q₀
 revert va vb q
 refine veq0.ind hr (P := fun a b r => VRel C.aS s.heap a wa → VRel C.aS s.heap b wb → Q (.bool r) σ → wpAny (model C.prog C.w) A (compareOp .Eq wa wb) P E s) ?_ ?_ ?_ ?_ ?_ ?_ <;> intros <;> rename_i va vb q <;> cases va <;> cases vb
 ·exact PySem.EqNone.eq_none_none (hP _ _ σ _ (.bool _) R Step.refl q)
 ·exact PySem.EqNone.eq_none_str (hP _ _ σ _ (.bool _) R Step.refl q)
 ·exact PySem.EqNone.eq_str_none (hP _ _ σ _ (.bool _) R Step.refl q)
 ·exact PyProof.Rows.eq_bool (hP _ _ σ _ (.bool _) R Step.refl q)
 ·exact _root_.PySem.P.eq_int (by rw [gq]; exact hP _ _ σ _ (.bool _) R Step.refl q)
 ·exact PyProof.Rows.eq_str (hP _ _ σ _ (.bool _) R Step.refl (by rw [gq]; exact q))
theorem gT : gQ C k (compareOp .NotEq) dv := by
 intro A s σ a b wa wb Q P E ao R va vb q₀ hP
 obtain ⟨r, hr, q⟩ := q₀.elim
 clear q₀
 revert va vb q
 refine veq0.ind hr (P := fun a b r => VRel C.aS s.heap a wa → VRel C.aS s.heap b wb → Q (.bool !r) σ → wpAny (model C.prog C.w) A (compareOp .NotEq wa wb) P E s) ?_ ?_ ?_ ?_ ?_ ?_ <;> intros <;> rename_i va vb q <;> cases va <;> cases vb
 ·exact PySem.EqNone.ne_none_none (hP _ _ σ _ (.bool _) R Step.refl q)
 ·exact PySem.EqNone.ne_none_str (hP _ _ σ _ (.bool _) R Step.refl q)
 ·exact PySem.EqNone.ne_str_none (hP _ _ σ _ (.bool _) R Step.refl q)
 ·exact PyProof.Rows.ne_bool (hP _ _ σ _ (.bool _) R Step.refl q)
 ·exact _root_.PySem.P.ne_int (hP _ _ σ _ (.bool _) R Step.refl (by rw [bne, gq]; exact q))
 ·exact PyProof.Rows.ne_str (hP _ _ σ _ (.bool _) R Step.refl (by rw [bne, gq]; exact q))
noncomputable def yR : O2
 | .str y, .str x, σ, Q => Q (.bool (Txt.contains x y)) σ
 | _, _, _, _ => False
noncomputable def j0 : O2
 | .str y, .str x, σ, Q => Q (.bool (!Txt.contains x y)) σ
 | _, _, _, _ => False
theorem rm : gQ C k (compareOp .NotIn) j0 := by
 intro A s σ a b wa wb Q P E ao R va vb q hP
 cases a <;> first | exact q.elim | skip
 cases b <;> first | exact q.elim | skip
 cases va; cases vb
 exact SB.notContains (hP _ _ σ _ (.bool _) R Step.refl q)
end
end Mine
end
noncomputable section
namespace Mine
open PySem
theorem ci {a b : String} (h : Str.ofString a = Str.ofString b) : a = b := by
 rw [Str.ofString_eq_toList, Str.ofString_eq_toList] at h
 have h1 : (a.toList.map Char.toNat) = (b.toList.map Char.toNat) := by
  have := congrArg (fun x : Str => x.cps.toList) h
  simpa using this
 have h2 : a.toList = b.toList := by
  refine (List.map_inj_right ?_).mp h1
  intro x y e
  exact Char.toNat_inj.mp e
 exact String.toList_inj.mp h2
inductive Fl where
 | next | brk | cont
 | ret (v : V)
abbrev ST := bg → ai → (Fl → bg → ai → Prop) → Prop
inductive FlRel (aS : Addr) (h : Heap) : Fl → Flow → Prop
 | next : FlRel aS h .next .next
 | brk : FlRel aS h .brk .brk
 | cont : FlRel aS h .cont .cont
 | ret {v : V} {w : Value} : VRel aS h v w → FlRel aS h (.ret v) (.ret w)
abbrev xS (C : Cx) (env : Env) (σ : ai) (s : Shared) (Q : Fl → bg → ai → Prop) (P : Flow → Shared → Prop) : Prop :=
 ∀ f g m' σ' s', FlRel C.aS s'.heap f g → RelG C σ' s' → FrameRel C env m' σ' s'.heap → Step (qe env) σ σ' s.heap s'.heap → Q f m' σ' → P g s'
structure HS (C : Cx) (sc : Scope) (k : Nat) (b : List Stmt) (T : ST) : Prop where
 run : ∀ (env : Env) (A : Around) (s : Shared) (m : bg) (σ : ai) (Q : Fl → bg → ai → Prop) (P : Flow → Shared → Prop) (E : Value → Shared → Prop),
  EnvOk env sc → AOk C A k → RelG C σ s → FrameRel C env m σ s.heap → T m σ Q → xS C env σ s Q P → wpAny (model C.prog C.w) A (execs b env) P E s
structure HS1 (C : Cx) (sc : Scope) (k : Nat) (b : Stmt) (T : ST) : Prop where
 run : ∀ (env : Env) (A : Around) (s : Shared) (m : bg) (σ : ai) (Q : Fl → bg → ai → Prop) (P : Flow → Shared → Prop) (E : Value → Shared → Prop),
  EnvOk env sc → AOk C A k → RelG C σ s → FrameRel C env m σ s.heap → T m σ Q → xS C env σ s Q P → wpAny (model C.prog C.w) A (exec b env) P E s
section
variable {C : Cx} {sc : Scope} {k : Nat}
theorem FrameRel.ownT {env : Env} {m : bg} {σ : ai} {h : Heap} (F : FrameRel C env m σ h) : ∀ b o, qe env b → h.get? b = some o → ¬ i7 o := by
 rintro b o (rfl | ⟨n, hn⟩) ho ⟨_, it, n', hd⟩
 ·obtain ⟨mm, ⟨o', es, ep, ho', hd', _⟩, _⟩ := F.ns
  rw [ho] at ho'; cases ho'; rw [hd] at hd'; cases hd'
 ·obtain ⟨v, o', ho', hd'⟩ := F.cells n b hn
  rw [ho] at ho'; cases ho'; rw [hd] at hd'; cases hd'
theorem Step.tupsO {env : Env} {m : bg} {σ σ' : ai} {s : Shared} {h' : Heap} (F : FrameRel C env m σ s.heap) (R : RelG C σ s) (S : Step (qe env) σ σ' s.heap h') : a6 s.heap h' := S.tups R F.ownT
theorem Step.own {env : Env} {σ σ' : ai} {h h' : Heap} (S : Step no σ σ' h h') : Step (qe env) σ σ' h h' := S.mono fun _ _ _ z => z.elim
noncomputable def aw : ST := fun m σ Q => Q .next m σ
noncomputable def an (T U : ST) : ST := fun m σ Q => T m σ fun f m₁ σ₁ => match f with
 | .next => U m₁ σ₁ Q
 | f => Q f m₁ σ₁
theorem am : HS C sc k [] aw := ⟨fun _ _ s m σ _ _ _ _ _ R F q hP => wpAny_execs_nil (hP .next .next m σ s .next R F Step.refl q)⟩
theorem ag {st : Stmt} {b : List Stmt} {T U : ST} (h1 : HS1 C sc k st T) (h2 : HS C sc k b U) : HS C sc k (st :: b) (an T U) := by
 refine ⟨?_⟩; intro env A s m σ Q P E en ao R F q hP
 refine wpAny_execs_cons (h1.run env A s m σ _ _ E en ao R F q fun f g m₁ σ₁ s₁ hf R₁ F₁ S₁ q₁ => ?_)
 cases hf with
 | next => exact h2.run env A s₁ m₁ σ₁ Q P E en ao R₁ F₁ q₁ fun f g m₂ σ₂ s₂ hf R₂ F₂ S₂ q₂ => hP f g m₂ σ₂ s₂ hf R₂ F₂ (S₁.trans S₂) q₂
 | brk => exact hP _ _ m₁ σ₁ s₁ .brk R₁ F₁ S₁ q₁
 | cont => exact hP _ _ m₁ σ₁ s₁ .cont R₁ F₁ S₁ q₁
 | ret hv => exact hP _ _ m₁ σ₁ s₁ (.ret hv) R₁ F₁ S₁ q₁
theorem d4 {env : Env} {A : Around} {s : Shared} {m : bg} {σ : ai} {x : String} {v : V} {w : Value} {P : Unit → Shared → Prop} {E : Value → Shared → Prop} (en : EnvOk env sc) (R : RelG C σ s) (F : FrameRel C env m σ s.heap)
  (hl : sc.names.lookup (Str.ofString x) = some .local) (hv : VRel C.aS s.heap v w)
  (h : ∀ s', RelG C σ s' → FrameRel C env (put m x v) σ s'.heap → Step (fun b => b = env.locals) σ σ s.heap s'.heap → P () s') : wpAny (model C.prog C.w) A (storeName env (Str.ofString x) w) P E s := by
 obtain ⟨mm, hn, hm⟩ := F.ns
 have kl := en.of hl
 refine wpAny_storeName_local kl hn (fun h' hn' hs' => ?_) (by rw [en.k]; rfl)
 obtain ⟨oL, esL, epL, hoL, hdL, _⟩ := id hn
 have kt : a6 s.heap h' := fun b o e ht => (hs'.2 b (by rintro rfl; rw [hoL] at e; cases e; obtain ⟨_, _, _, hd⟩ := ht; rw [hdL] at hd; cases hd)).trans e
 have kc : ∀ c v, s.heap.IsCell c v → h'.IsCell c v := fun c v ⟨o, ho, hd⟩ => ⟨o, (hs'.2 c (by rintro rfl; rw [hoL] at ho; cases ho; rw [hdL] at hd; cases hd)).trans ho, hd⟩
 refine h _ ?_ ?_ ?_
 ·refine ⟨let ⟨_, _, d, e⟩ := R.rest; ⟨h', s.toks + 1, d, by rw [e]⟩, fun b o e => ?_, fun a o e => ?_, R.apart⟩
  ·exact (hs'.2 b (by rintro rfl; rw [F.baseL] at e; cases e)).trans (R.base b o e)
  ·exact (R.view a o e).keep kt fun o' e' => (hs'.2 a (by rintro rfl; rw [F.sepL] at e; cases e)).trans e'
 ·refine ⟨⟨_, hn', fun y u e ky => ?_⟩, fun y u e => ?_, fun n c e => ?_, F.sepL, F.baseL, F.baseC, F.dist, F.has⟩
  ·by_cases hy : y = x
   ·subst hy; rw [jW] at e; cases e; exact ⟨w, by simp, hv.keep kt⟩
   ·rw [gR hy] at e
    obtain ⟨w', h1, h2⟩ := hm y u e ky
    exact ⟨w', by simp [show ¬ Str.ofString y = Str.ofString x from fun z => hy (ci z), h1], h2.keep kt⟩
  ·by_cases hy : y = x
   ·subst hy; exact .inl kl
   ·rw [gR hy] at e
    rcases F.cel y u e with z | ⟨z, c, w', h1, h2, h3⟩
    ·exact .inl z
    ·exact .inr ⟨z, c, w', h1, kc _ _ h2, h3.keep kt⟩
  ·obtain ⟨v, hv⟩ := F.cells n c e; exact ⟨v, kc _ _ hv⟩
 ·exact .of (fun b o e n q => (hs'.2 b q).trans e) (Nat.le_of_eq hs'.1.symm) fun _ a b => absurd a b
theorem pz {env : Env} {A : Around} {s : Shared} {m : bg} {σ : ai} {x : String} {v : V} {w : Value} {P : Unit → Shared → Prop} {E : Value → Shared → Prop} (en : EnvOk env sc) (R : RelG C σ s) (F : FrameRel C env m σ s.heap)
  (hl : sc.names.lookup (Str.ofString x) = some .cell) (hv : VRel C.aS s.heap v w)
  (h : ∀ s', RelG C σ s' → FrameRel C env (put m x v) σ s'.heap → Step (qe env) σ σ s.heap s'.heap → P () s') : wpAny (model C.prog C.w) A (storeName env (Str.ofString x) w) P E s := by
 have kl := en.of hl
 obtain ⟨c₀, hc₀⟩ := F.has _ (.inl kl)
 obtain ⟨v₀, hv₀⟩ := F.cells _ _ hc₀
 refine wpAny_storeName_cell en.k kl hc₀ hv₀ fun h' hc' hs' => ?_
 obtain ⟨oc, hoc, hdc⟩ := id hv₀
 have kt : a6 s.heap h' := fun b o e ht => (hs'.2 b (by rintro rfl; rw [hoc] at e; cases e; obtain ⟨_, _, _, hd⟩ := ht; rw [hdc] at hd; cases hd)).trans e
 have kc : ∀ c v, c ≠ c₀ → s.heap.IsCell c v → h'.IsCell c v := fun c v hne ⟨o, ho, hd⟩ => ⟨o, (hs'.2 c hne).trans ho, hd⟩
 obtain ⟨mm, hn, hm⟩ := F.ns
 have hL : env.locals ≠ c₀ := by
  rintro e
  obtain ⟨oL, _, _, hoL, hdL, _⟩ := hn
  rw [e, hoc] at hoL; cases hoL; rw [hdc] at hdL; cases hdL
 have hσ : σ c₀ = Option.none := by
  cases z : σ c₀ with
  | none => rfl
  | some o' => obtain ⟨ob, h1, _, h3⟩ := (R.view c₀ o' z).shape; rw [hoc] at h1; cases h1; exact absurd hdc (h3 _)
 refine h _ ?_ ?_ ?_
 ·refine ⟨let ⟨_, _, d, e⟩ := R.rest; ⟨h', s.toks, d, by rw [e]⟩, fun b o e => ?_, fun a o e => ?_, R.apart⟩
  ·exact (hs'.2 b (by rintro rfl; rw [F.baseC _ _ hc₀] at e; cases e)).trans (R.base b o e)
  ·exact (R.view a o e).keep kt fun o' e' => (hs'.2 a (by rintro rfl; rw [hσ] at e; cases e)).trans e'
 ·refine ⟨⟨mm, hn.sameBut hs' hL, fun y u e ky => ?_⟩, fun y u e => ?_, fun n c e => ?_, F.sepL, F.baseL, F.baseC, F.dist, F.has⟩
  ·have hy : y ≠ x := by rintro rfl; rw [kl] at ky; cases ky
   rw [gR hy] at e
   obtain ⟨w', h1, h2⟩ := hm y u e ky
   exact ⟨w', h1, h2.keep kt⟩
  ·by_cases hy : y = x
   ·subst hy; rw [jW] at e; cases e; exact .inr ⟨.inl kl, c₀, w, hc₀, hc', hv.keep kt⟩
   ·rw [gR hy] at e
    rcases F.cel y u e with z | ⟨z, c, w', h1, h2, h3⟩
    ·exact .inl z
    ·exact .inr ⟨z, c, w', h1, kc _ _ (by rintro rfl; exact hy (ci (name_of_addr F.dist (mem_of_lookup h1) (mem_of_lookup hc₀)))) h2, h3.keep kt⟩
  ·by_cases hc : c = c₀
   ·subst hc; exact ⟨_, hc'⟩
   ·obtain ⟨v, hv⟩ := F.cells n c e; exact ⟨v, kc _ _ hc hv⟩
 ·exact .of (fun b o e n q => (hs'.2 b fun z => q (.inr ⟨_, z ▸ hc₀⟩)).trans e) (Nat.le_of_eq hs'.1.symm) fun _ a b => absurd a b
noncomputable def zc (sc : Scope) (x : String) : Prop := sc.names.lookup (Str.ofString x) = some .local ∨ sc.names.lookup (Str.ofString x) = some .cell
theorem wO {env : Env} {A : Around} {s : Shared} {m : bg} {σ : ai} {x : String} {v : V} {w : Value} {P : Unit → Shared → Prop} {E : Value → Shared → Prop} (en : EnvOk env sc) (R : RelG C σ s) (F : FrameRel C env m σ s.heap)
  (hl : zc sc x) (hv : VRel C.aS s.heap v w)
  (h : ∀ s', RelG C σ s' → FrameRel C env (put m x v) σ s'.heap → Step (qe env) σ σ s.heap s'.heap → P () s') : wpAny (model C.prog C.w) A (storeName env (Str.ofString x) w) P E s :=
 hl.elim (fun z => d4 en R F z hv fun s' R' F' S' => h s' R' F' (S'.mono fun _ _ _ q => .inl q)) fun z => pz en R F z hv h
noncomputable def bi (x : String) (T : ET) : ST := fun m σ Q => T m σ fun v σ' => Q .next (put m x v) σ'
theorem aJ {x : String} {p pos : Pos} {value : Expr} {T : ET} (hx : zc sc x) (he : HE C sc k value T) (hs : ∀ env, EnvOk env sc → swapsWith value (some (.Name (Str.ofString x) p)) pos.line env = pure false) : HS1 C sc k (.Assign [.Name (Str.ofString x) p] value pos) (bi x T) := by
 refine ⟨?_⟩; intro env A s m σ Q P E en ao R F q hP
 refine wpAny_Assign_Name (he.run env A s m σ _ _ E en ao R F q fun v w σ₁ s₁ hv R₁ S₁ q₁ => ?_) (hs env en)
 exact wO en R₁ (F.step R S₁) hx hv fun s₂ R₂ F₂ S₂ => hP .next .next _ σ₁ s₂ .next R₂ F₂ ((S₁.own).trans S₂) q₁
noncomputable def bO (T : ET) : ST := fun m σ Q => T m σ fun _ σ' => Q .next m σ'
theorem ba {pos : Pos} {value : Expr} {T : ET} (he : HE C sc k value T) (hs : ∀ env, EnvOk env sc → swapsWith value Option.none pos.line env = pure false) : HS1 C sc k (.Expr value pos) (bO T) := by
 refine ⟨?_⟩; intro env A s m σ Q P E en ao R F q hP
 have hi : interactive env = false := by unfold interactive; rw [en.k]; rfl
 rw [exec_Expr env value pos hi (hs env en)]
 refine wpAny_bind (wpAny_standAt (wpAny_bind (he.run env A s m σ _ _ E en ao R F q fun v w σ₁ s₁ hv R₁ S₁ q₁ => ?_)))
 exact wpAny_dropValue (hP .next .next m σ₁ s₁ .next R₁ (F.step R S₁) S₁.own q₁)
noncomputable def dz (B : BT) (T U : ST) : ST := fun m σ Q => B m σ fun b σ' => if b then T m σ' Q else U m σ' Q
theorem aQ {pos : Pos} {test : Expr} {a b : List Stmt} {B : BT} {T U : ST} (hb : HB C sc k test B) (h1 : HS C sc k a T) (h2 : HS C sc k b U) : HS1 C sc k (.If test a b pos) (dz B T U) := by
 refine ⟨?_⟩; intro env A s m σ Q P E en ao R F q hP
 refine wpAny_If (hb.run env A s m σ _ _ E en ao R F q fun b σ₁ s₁ R₁ S₁ q₁ => ?_)
 cases b with
 | true => simp only [if_true] at q₁ ⊢; exact h1.run env A s₁ m σ₁ Q P E en ao R₁ (F.step R S₁) q₁ fun f g m₂ σ₂ s₂ hf R₂ F₂ S₂ q₂ => hP f g m₂ σ₂ s₂ hf R₂ F₂ (S₁.own.trans S₂) q₂
 | false => simp only [Bool.false_eq_true, if_false] at q₁ ⊢; exact h2.run env A s₁ m σ₁ Q P E en ao R₁ (F.step R S₁) q₁ fun f g m₂ σ₂ s₂ hf R₂ F₂ S₂ q₂ => hP f g m₂ σ₂ s₂ hf R₂ F₂ (S₁.own.trans S₂) q₂
noncomputable def bC (T : ET) : ST := fun m σ Q => T m σ fun v σ' => Q (.ret v) m σ'
theorem aG {pos : Pos} {value : Expr} {T : ET} (he : HE C sc k value T) : HS1 C sc k (.Return (some value) pos) (bC T) := by
 refine ⟨?_⟩; intro env A s m σ Q P E en ao R F q hP
 exact wpAny_Return_some (he.run env A s m σ _ _ E en ao R F q fun v w σ₁ s₁ hv R₁ S₁ q₁ => hP (.ret v) (.ret w) m σ₁ s₁ (.ret hv) R₁ (F.step R S₁) S₁.own q₁)
end
end Mine
end
noncomputable section
namespace Mine
open PySem
abbrev b7 := List V → ai → (V → ai → Prop) → Prop
noncomputable def FnSound (C : Cx) (j : Nat) (f : Addr) (spec : b7) : Prop :=
 ∀ (A : Around) (s : Shared) (σ : ai) (vs : List V) (ws : List Value) (Q : V → ai → Prop) (P : Value → Shared → Prop) (E : Value → Shared → Prop),
  AOk C A (j + 1) → RelG C σ s → VRels C.aS s.heap vs ws → spec vs σ Q → uC C σ s Q P → codeAny (model C.prog C.w) A (.call (.ref f) ⟨ws, []⟩) (fun r s' => match r with | .ok (.ret v) => P v s' | .ok _ => False | .error e => E e s') s
noncomputable def aN : bg := fun _ => Option.none
noncomputable def aF : List String → List V → bg → bg
 | x :: xs, v :: vs, m => aF xs vs (put m x v)
 | _, _, m => m
theorem dh {x : Str} : ∀ (names : List (Str × NameKind)) (n : Nat) (acc : List (Str × Addr)), (names.lookup x = some .cell ∨ ∃ c, acc.lookup x = some c) → ∃ c, (cellsFrom n names acc).lookup x = some c
 | [], _, _, h => h.elim (fun e => by cases e) id
 | (y, q) :: r, n, acc, h => by
  unfold cellsFrom
  by_cases hq : q = .cell
  ·rw [if_pos (by simp [hq])]
   refine dh r _ _ ?_
   by_cases hy : x = y
   ·exact .inr ⟨n, by simp [hy]⟩
   ·have hb : (x == y) = false := by simp [hy]
    refine h.imp (fun e => ?_) fun ⟨c, e⟩ => ⟨c, ?_⟩
    ·rw [List.lookup_cons, hb] at e; exact e
    ·rw [List.lookup_cons, hb]; exact e
  ·rw [if_neg (by simpa using hq)]
   refine dh r _ _ ?_
   by_cases hy : x = y
   ·refine .inr (h.elim (fun e => ?_) id)
    rw [List.lookup_cons, show (x == y) = true by simp [hy]] at e
    exact absurd (Option.some.inj e) hq
   ·have hb : (x == y) = false := by simp [hy]
    refine h.imp (fun e => ?_) id
    rw [List.lookup_cons, hb] at e; exact e
section
variable {C : Cx}
theorem kH {h : Heap} (kindOf : Str → Option NameKind) : ∀ (xs : List String) (vs : List V) (ws : List Value) (m : bg) (mL mC : Str → Option Value),
  (∀ x ∈ xs, kindOf (Str.ofString x) = some .local ∨ kindOf (Str.ofString x) = some .cell) → VRels C.aS h vs ws →
  (∀ x v, m x = some v → (kindOf (Str.ofString x) = some .local ∧ ∃ w, mL (Str.ofString x) = some w ∧ VRel C.aS h v w) ∨ (kindOf (Str.ofString x) = some .cell ∧ ∃ w, mC (Str.ofString x) = some w ∧ VRel C.aS h v w)) →
  ∀ x v, aF xs vs m x = some v → (kindOf (Str.ofString x) = some .local ∧ ∃ w, bindL kindOf ((xs.map Str.ofString).zip ws) mL (Str.ofString x) = some w ∧ VRel C.aS h v w) ∨
   (kindOf (Str.ofString x) = some .cell ∧ ∃ w, bindC kindOf ((xs.map Str.ofString).zip ws) mC (Str.ofString x) = some w ∧ VRel C.aS h v w)
 | [], _, _, _, _, _, _, _, hm => by simpa [aF, bindL, bindC] using hm
 | x :: xs, [], _, _, _, _, _, .nil, hm => by simpa [aF, bindL, bindC] using hm
 | x :: xs, v :: vs, w :: ws, m, mL, mC, hk, .cons hv hvs, hm => by
  simp only [aF, List.map_cons, List.zip_cons_cons, bindL, bindC]
  refine kH kindOf xs vs ws _ _ _ (fun y hy => hk y (.tail _ hy)) hvs fun y u e => ?_
  by_cases hy : y = x
  ·subst hy
   rw [jW] at e; cases e
   rcases hk y (.head _) with z | z
   ·exact .inl ⟨z, w, by simp [z], hv⟩
   ·exact .inr ⟨z, w, by simp [z], hv⟩
  ·rw [gR hy] at e
   have hne : ¬ Str.ofString y = Str.ofString x := fun z => hy (ci z)
   rcases hm y u e with ⟨z, w', h1, h2⟩ | ⟨z, w', h1, h2⟩
   ·refine .inl ⟨z, w', ?_, h2⟩
    split <;> simp [hne, h1]
   ·refine .inr ⟨z, w', ?_, h2⟩
    split <;> simp [hne, h1]
theorem FnSound.mk (O : C.Ok) {f : Addr} {o : Obj} {fd : FuncData} {body : List Stmt} {xs : List String} {sc : Scope} {j : Nat} {spec : b7} {T : ST}
  (ho : C.hB.get? f = some o) (hd : o.data = .func fd) (hcd : C.hB.CodeRec fd.code fd.qualname) (hb : fd.body = .stmts body) (hsc : fd.scope = sc) (hcl : fd.closure = []) (hg : fd.globals = mainGlobals) (hbi : fd.builtins = builtinsNs)
  (hk : sc.kind = .function) (hfr : ∀ p ∈ sc.names, p.2 ≠ .free) (hco : sc.isCoroutine = false) (hgen : sc.isGenerator = false)
  (hbind : ∀ ws : List Value, ws.length = xs.length → bindArgs fd ⟨ws, []⟩ = pure ((xs.map Str.ofString).zip ws))
  (hloc : ∀ x ∈ xs, sc.names.lookup (Str.ofString x) = some .local ∨ sc.names.lookup (Str.ofString x) = some .cell)
  (hT : HS C sc j body T)
  (hspec : ∀ vs σ Q, spec vs σ Q → vs.length = xs.length ∧ T (aF xs vs aN) σ fun f _ σ' => match f with | .ret v => Q v σ' | .next => Q .none σ' | _ => False) : FnSound C j f spec := by
 intro A s σ vs ws Q P E ao R hvs hs hP
 subst hsc
 obtain ⟨hlen, q⟩ := hspec vs σ Q hs
 have hlw : ws.length = xs.length := by rw [← hvs.length]; exact hlen
 refine (codeAny_call_cells (fd := fd) (body := body) (binds := (xs.map Str.ofString).zip ws) (Nat.lt_of_le_of_lt (Nat.le_trans (Nat.le_add_right _ _) (Nat.le_add_right _ _)) ao.depth) (R.base _ _ ho) hd (O.nolimit.keeps R.base) (hcd.keeps R.base) hb (hbind ws hlw) hcl ?_ ?_ hco hgen hk)
 ·intro x hx
  have : x.1 ∈ xs.map Str.ofString := (List.of_mem_zip (a := x.1) (b := x.2) hx).1
  obtain ⟨y, hy, e⟩ := List.mem_map.mp this
  rw [← e]
  refine (hloc y hy).imp id fun z => ⟨z, ?_⟩
  obtain ⟨c, hc⟩ := dh (x := Str.ofString y) fd.scope.names (s.heap.objs.size + 1) [] (.inl z)
  rw [hc]; rfl
 ·intro s₁ x
  generalize henv : callEnvC fd s.heap.objs.size f = env at x ⊢
  have eS : env.scope = fd.scope := by rw [← henv]; rfl
  have eL : env.locals = s.heap.objs.size := by rw [← henv]; rfl
  have eC : env.cells = cellsFrom (s.heap.objs.size + 1) fd.scope.names [] := by rw [← henv]; rfl
  have en : EnvOk env fd.scope := ⟨eS, hk, by rw [← henv]; exact hg, by rw [← henv]; exact hbi⟩
  obtain ⟨h₁, tk₁, e₁⟩ := x.toInCall.same
  have keep := x.toInCall.keep
  have R₁ : RelG C σ s₁ := by
   rw [e₁]
   exact R.grow (fun b o e => by have := keep b o e; rw [e₁] at this; exact this)
  have hz : s.heap.objs.size ≤ s₁.heap.objs.size := Nat.le_of_lt (by have := x.toInCall.ns.lt; rw [eL] at this; exact this)
  have kt : a6 s.heap s₁.heap := fun b o e _ => keep b o e
  have vars := kH (C := C) (h := s₁.heap) env.kindOf xs vs ws aN (fun _ => Option.none) (fun _ => Option.none)
   (fun y hy => by unfold Env.kindOf; rw [eS]; exact hloc y hy) (hvs.keep kt) (fun _ _ e => by cases e)
  have lookupC : ∀ n, env.kindOf n = some .cell → ∃ c, env.cells.lookup n = some c := fun n hn => by
   rw [eC]; exact dh _ _ _ (.inl (by unfold Env.kindOf at hn; rw [eS] at hn; exact hn))
  have lookupF : ∀ n, env.kindOf n = some .cell ∨ env.kindOf n = some .free → ∃ c, env.cells.lookup n = some c := fun n hn => hn.elim (lookupC n) fun z => by
   unfold Env.kindOf at z; rw [eS] at z; exact absurd rfl (hfr _ (mem_of_lookup z))
  have fresh : ∀ c, s.heap.objs.size ≤ c → C.hB.get? c = Option.none := fun c hc => R.baseNone (aI hc)
  have F₁ : FrameRel C env (aF xs vs aN) σ s₁.heap := by
   refine ⟨⟨_, x.toInCall.ns, fun y v e ky => ?_⟩, fun y v e => ?_, fun n c hc => ?_, R.freshNone (aI (Nat.le_of_eq eL.symm)), fresh _ (Nat.le_of_eq eL.symm), fun n c hc => ?_, x.apart, lookupF⟩
   ·rcases vars y v e with ⟨_, w, h1, h2⟩ | ⟨z, _⟩
    ·exact ⟨w, h1, h2⟩
    ·rw [z] at ky; cases ky
   ·rcases vars y v e with ⟨z, _⟩ | ⟨z, w, h1, h2⟩
    ·exact .inl z
    ·obtain ⟨c, hc⟩ := lookupC _ z
     exact .inr ⟨.inl z, c, w, hc, h1 ▸ x.cell _ c hc, h2⟩
   ·exact ⟨_, x.cell n c hc⟩
   ·exact fresh c (Nat.le_of_lt (by have := x.above n c (mem_of_lookup hc); rw [eL] at this; exact this))
  refine hT.run env _ s₁ _ σ _ _ _ en ⟨by show A.handled = _; exact ao.handled, by show A.depth + 1 + 3 * j + 3 < _; exact yO ao.depth (by decide), by show A.units + 3 + 10 * j + 20 < _; exact yO ao.units (by decide)⟩ R₁ F₁ q fun fl g m' σ' s' hf R' F' S' q' => ?_
  have S₀ : Step no σ σ' s.heap s'.heap :=
   ⟨fun b o e n _ => S'.keepL b o (keep b o e) n (fun z => by
     have hlt := Heap.lt_size e
     rcases z with z | ⟨n', z⟩
     ·rw [z, eL] at hlt; exact Nat.lt_irrefl _ hlt
     ·have := x.above n' b (mem_of_lookup z); rw [eL] at this; exact Nat.lt_irrefl _ (Nat.lt_trans hlt this)),
    Nat.le_trans hz S'.size, fun b n m => Nat.le_trans hz (S'.new b n m)⟩
  cases hf with
  | next => exact hP .none .none σ' s' .none R' S₀ q'
  | ret hv => exact hP _ _ σ' s' hv R' S₀ q'
  | brk => exact q'.elim
  | cont => exact q'.elim
end
end Mine
end
noncomputable section
namespace Mine
open PySem
section
variable {C : Cx} {sc : Scope} {k : Nat}
noncomputable def aO (es : List Expr) : Bool := es.all jG
theorem bp {es : List Expr} {env : Env} {pos : Pos} (h : aO es = true) : (backTo pos (starEach es env)).any (·.1) = false := by
 induction es with
 | nil => rfl
 | cons e r ih =>
  simp only [aO, List.all_cons, Bool.and_eq_true] at h
  rw [cJ h.1]
  show ((false, _) :: backTo pos (starEach r env)).any (·.1) = false
  rw [List.any_cons, ih h.2]; rfl
theorem bE {f : Value} {es : List Expr} {env : Env} {pos : Pos} {M : Model} {A : Around} {s : Shared} {Q : Args → Shared → Prop} {E : Value → Shared → Prop} (h : aO es = true)
  (hs : wpAny M A (spliced (backTo pos (starEach es env))) (fun vs s' => Q ⟨vs, []⟩ s') E s) : wpAny M A (evalArgs f true (backTo pos (starEach es env)) []) Q E s := by
 cases es with
 | nil =>
  unfold evalArgs
  show wpAny M A (spliced [] >>= _) Q E s
  refine wpAny_bind (wpAny_mono hs (fun vs s' h' => ?_) fun _ _ x => x)
  refine wpAny_holding ?_
  exact wpAny_bind (wpAny_pure (wpAny_bind (wpAny_pure (wpAny_pure h'))))
 | cons e r =>
  simp only [aO, List.all_cons, Bool.and_eq_true] at h
  rw [cJ h.1] at hs ⊢
  exact Calls.evalArgs_plain hs
noncomputable def az (spec : b7) (L : LT) : ET := fun m σ Q => L m σ fun vs σ' => spec vs σ' Q
theorem uB (O : C.Ok) {f : String} {a : Addr} {o : Obj} {fd : FuncData} {np pos : Pos} {es : List Expr} {L : LT} {spec : b7} {j : Nat} (hf : FnSound C j a spec) (hj : j < k)
  (hn : sc.names.lookup (Str.ofString f) = some .globalImplicit) (hg : C.mg (Str.ofString f) = some (.ref a)) (ho : C.hB.get? a = some o) (hd : o.data = .func fd) (hdb : (Str.ofString f == ("__debug__" : Str)) = false)
  (hl : HL C sc k es L) (hp : aO es = true) : HE C sc k (.Call (.Name (Str.ofString f) np) es [] pos) (az spec L) := by
 refine ⟨?_⟩; intro env A s m σ Q P E en ao R F q hP
 refine wpAny_Call_NameR (Calls.Name_function_global en.k (en.of hn) (Calls.loadGlobal_global (mg := C.mg) (by rw [en.globals]; exact O.g.keeps R.base) hg ?_) hdb)
 refine Calls.callWith_function (o := o) (fd := fd) (bE hp (hl.run env A s m σ pos _ _ E en ao R F q fun vs ws σ₁ s₁ hv R₁ S₁ q₁ => ⟨⟨R₁.base _ _ ho, hd⟩, ?_⟩))
 exact wpAny_call (hf A s₁ σ₁ vs ws Q P E (ao.le hj) R₁ hv q₁ fun v w σ' s' hv' R' S' q' => hP v w σ' s' hv' R' (S₁.trans S') q')
noncomputable def nz (C : Cx) (k : Nat) (t : List Value → Sem Value) (op : b7) : Prop :=
 ∀ (A : Around) (s : Shared) (σ : ai) (vs : List V) (ws : List Value) (Q : V → ai → Prop) (P E : Value → Shared → Prop), AOk C A k → RelG C σ s → VRels C.aS s.heap vs ws → op vs σ Q → uC C σ s Q P →
  wpAny (model C.prog C.w) A (t ws) P E s
theorem df (O : C.Ok) {f : String} {id : String} {np pos : Pos} {es : List Expr} {L : LT} {op : b7} (hop : nz C k (fun ws => PySem.call (.builtin id) ws) op)
  (hn : sc.names.lookup (Str.ofString f) = some .globalImplicit) (hg : C.mg (Str.ofString f) = Option.none) (hb : C.mb (Str.ofString f) = some (.builtin id)) (hdb : (Str.ofString f == ("__debug__" : Str)) = false)
  (hl : HL C sc k es L) (hp : aO es = true) : HE C sc k (.Call (.Name (Str.ofString f) np) es [] pos) (az op L) := by
 refine ⟨?_⟩; intro env A s m σ Q P E en ao R F q hP
 refine wpAny_Call_NameR (Calls.Name_function_global en.k (en.of hn) (Calls.loadGlobal_builtin (mg := C.mg) (mb := C.mb) (by rw [en.globals]; exact O.g.keeps R.base) hg (by rw [en.builtins]; exact O.b.keeps R.base) hb ?_) hdb)
 refine Calls.callWith_builtin (bp hp) (bE hp (hl.run env A s m σ pos _ _ E en ao R F q fun vs ws σ₁ s₁ hv R₁ S₁ q₁ => ?_))
 exact hop A s₁ σ₁ vs ws Q P E ao R₁ hv q₁ fun v w σ' s' hv' R' S' q' => hP v w σ' s' hv' R' (S₁.trans S') q'
theorem pn (O : C.Ok) {f : String} {id : String} {np pos : Pos} {es : List Expr} {L : LT} {op : b7} (hop : nz C k (fun ws => PySem.call (.type id) ws) op)
  (hn : sc.names.lookup (Str.ofString f) = some .globalImplicit) (hg : C.mg (Str.ofString f) = Option.none) (hb : C.mb (Str.ofString f) = some (.type id)) (hdb : (Str.ofString f == ("__debug__" : Str)) = false)
  (hl : HL C sc k es L) (hp : aO es = true) : HE C sc k (.Call (.Name (Str.ofString f) np) es [] pos) (az op L) := by
 refine ⟨?_⟩; intro env A s m σ Q P E en ao R F q hP
 refine wpAny_Call_NameR (Calls.Name_function_global en.k (en.of hn) (Calls.loadGlobal_builtin (mg := C.mg) (mb := C.mb) (by rw [en.globals]; exact O.g.keeps R.base) hg (by rw [en.builtins]; exact O.b.keeps R.base) hb ?_) hdb)
 refine callWith_type (bp hp) (bE hp (hl.run env A s m σ pos _ _ E en ao R F q fun vs ws σ₁ s₁ hv R₁ S₁ q₁ => ?_))
 exact hop A s₁ σ₁ vs ws Q P E ao R₁ hv q₁ fun v w σ' s' hv' R' S' q' => hP v w σ' s' hv' R' (S₁.trans S') q'
structure It (C : Cx) (k : Nat) (I : Addr) (items : List V) (inv : ai → Prop) (St : Nat → Heap → Prop) : Prop where
 frame : ∀ i h h', St i h → (∀ o, h.get? I = some o → h'.get? I = some o) → a6 h h' → St i h'
 live : ∀ i h, St i h → ∃ o, h.get? I = some o ∧ ¬ i7 o ∧ ∀ v, o.data ≠ .cell v
 flds : ∀ i h, St i h → ∀ o, h.get? I = some o → ∀ es ep, o.data ≠ .dict es ep
 next : ∀ (A : Around) (σ : ai) (s : Shared) (i : Nat) (v : V) (Q : Option Value → Shared → Prop) (E : Value → Shared → Prop), AOk C A k → RelG C σ s → inv σ → St i s.heap → items[i]? = some v →
  (∀ w h' tk, VRel C.aS h' v w → St (i + 1) h' → Heap.ExtBut I s.heap h' → Q (some w) { s with heap := h', toks := tk }) → wpAny (model C.prog C.w) A (pyNext (.ref I)) Q E s
 done : ∀ (A : Around) (σ : ai) (s : Shared) (Q : Option Value → Shared → Prop) (E : Value → Shared → Prop), AOk C A k → RelG C σ s → inv σ → St items.length s.heap →
  (∀ h' tk, Heap.ExtBut I s.heap h' → Q Option.none { s with heap := h', toks := tk }) → wpAny (model C.prog C.w) A (pyNext (.ref I)) Q E s
 self : ∀ (A : Around) (s : Shared) (i : Nat) (Q : Value → Shared → Prop) (E : Value → Shared → Prop), St i s.heap → Q (.ref I) s → wpAny (model C.prog C.w) A (pyIter (.ref I)) Q E s
 own : ∀ (A : Around) (s : Shared) (i : Nat) (t : Expr) (w : Value) (Q : Unit → Shared → Prop) (E : Value → Shared → Prop), St i s.heap → Q () s → wpAny (model C.prog C.w) A (letOwnedTupleGo t (.ref I) w) Q E s
abbrev IT := bg → ai → (List V → (ai → Prop) → ai → Prop) → Prop
structure HI (C : Cx) (sc : Scope) (k : Nat) (e : Expr) (T : IT) : Prop where
 run : ∀ (env : Env) (A : Around) (s : Shared) (m : bg) (σ : ai) (Q : List V → (ai → Prop) → ai → Prop) (P : Value → Shared → Prop) (E : Value → Shared → Prop),
  EnvOk env sc → AOk C A k → RelG C σ s → FrameRel C env m σ s.heap → T m σ Q →
  (∀ items inv I St σ' s', It C k I items inv St → St 0 s'.heap → s.heap.objs.size ≤ I → σ' I = Option.none → RelG C σ' s' → Step no σ σ' s.heap s'.heap → Q items inv σ' → P (.ref I) s') →
  wpAny (model C.prog C.w) A (eval e env) (fun x s₁ => wpAny (model C.prog C.w) A (pyIter x) P E s₁) E s
theorem dP {σ : ai} {s : Shared} {h' : Heap} {tk : Nat} {I : Addr} (R : RelG C σ s) (hx : Heap.ExtBut I s.heap h') (hσ : σ I = Option.none) (hb : C.hB.get? I = Option.none) (hI : ∃ o, s.heap.get? I = some o ∧ ¬ i7 o ∧ ∀ v, o.data ≠ .cell v) :
  RelG C σ { s with heap := h', toks := tk } := by
 obtain ⟨oI, hoI, hT, _⟩ := hI
 have kt : a6 s.heap h' := fun b o e ht => hx b o (by rintro rfl; rw [hoI] at e; cases e; exact hT ht) e
 exact ⟨let ⟨_, _, d, e⟩ := R.rest; ⟨h', tk, d, by rw [e]⟩, fun b o e => hx b o (by rintro rfl; rw [hb] at e; cases e) (R.base b o e),
  fun a o e => (R.view a o e).keep kt fun o' e' => hx a o' (by rintro rfl; rw [hσ] at e; cases e) e', R.apart⟩
theorem de {env : Env} {m : bg} {σ : ai} {s : Shared} {h' : Heap} {I : Addr} (F : FrameRel C env m σ s.heap) (hx : Heap.ExtBut I s.heap h') (hI : ∃ o, s.heap.get? I = some o ∧ ¬ i7 o ∧ ∀ v, o.data ≠ .cell v) (hL : I ≠ env.locals) : FrameRel C env m σ h' := by
 obtain ⟨oI, hoI, hT, hC⟩ := hI
 have kt : a6 s.heap h' := fun b o e ht => hx b o (by rintro rfl; rw [hoI] at e; cases e; exact hT ht) e
 have kc : ∀ c v, s.heap.IsCell c v → h'.IsCell c v := fun c v ⟨o, ho, hd⟩ => ⟨o, hx c o (by rintro rfl; rw [hoI] at ho; cases ho; exact hC _ hd) ho, hd⟩
 obtain ⟨mm, hn, hm⟩ := F.ns
 refine ⟨⟨mm, hn.extBut hx (Ne.symm hL), fun y u e ky => ?_⟩, fun y u e => ?_, fun n c e => ?_, F.sepL, F.baseL, F.baseC, F.dist, F.has⟩
 ·obtain ⟨w, h1, h2⟩ := hm y u e ky; exact ⟨w, h1, h2.keep kt⟩
 ·rcases F.cel y u e with z | ⟨z, c, w', h1, h2, h3⟩
  ·exact .inl z
  ·exact .inr ⟨z, c, w', h1, kc _ _ h2, h3.keep kt⟩
 ·obtain ⟨v, hv⟩ := F.cells n c e; exact ⟨v, kc _ _ hv⟩
inductive Tgt where
 | name (x : String)
 | tup (xs : List String)
noncomputable def fV : Tgt → V → bg → Option bg
 | .name x, v, m => some (put m x v)
 | .tup xs, .tup vs, m => if xs.length = vs.length then some (aF xs vs m) else Option.none
 | .tup _, _, _ => Option.none
noncomputable def yM (loc : Bool) (env : Env) (b : Addr) : Prop := b = env.locals ∨ (loc = false ∧ ∃ n, env.cells.lookup n = some b)
structure HT (C : Cx) (sc : Scope) (k : Nat) (loc : Bool) (t : Expr) (g : Tgt) : Prop where
 run : ∀ (env : Env) (A : Around) (s : Shared) (m m' : bg) (σ : ai) (v : V) (w : Value) (P : Unit → Shared → Prop) (E : Value → Shared → Prop),
  EnvOk env sc → AOk C A k → RelG C σ s → FrameRel C env m σ s.heap → VRel C.aS s.heap v w → fV g v m = some m' →
  (∀ s', RelG C σ s' → FrameRel C env m' σ s'.heap → Step (yM loc env) σ σ s.heap s'.heap → P () s') → wpAny (model C.prog C.w) A (assign t env w) P E s
theorem aP {x : String} {pos : Pos} (hx : sc.names.lookup (Str.ofString x) = some .local) : HT C sc k true (.Name (Str.ofString x) pos) (.name x) := by
 refine ⟨?_⟩; intro env A s m m' σ v w P E en ao R F hv hb hP
 cases hb
 exact wpAny_assign_Name (d4 en R F hx hv fun s' R' F' S' => hP s' R' F' (S'.mono fun _ _ _ z => .inl z))
noncomputable def kj (g : Tgt) (inv : ai → Prop) (T : ST) : List V → ST
 | [] => fun m σ Q => inv σ ∧ Q .next m σ
 | v :: r => fun m σ Q => inv σ ∧ ∃ m', fV g v m = some m' ∧ T m' σ fun f m₁ σ₁ => match f with
  | .next => kj g inv T r m₁ σ₁ Q
  | .cont => kj g inv T r m₁ σ₁ Q
  | .brk => Q .next m₁ σ₁
  | .ret u => Q (.ret u) m₁ σ₁
noncomputable def ch (g : Tgt) (I : IT) (T : ST) : ST := fun m σ Q => I m σ fun items inv σ' => kj g inv T items m σ' Q
inductive ForInv (C : Cx) (env : Env) (σ : ai) (h : Heap) (I : Addr) (items : List V) (St : Nat → Heap → Prop) (L : List V → bg → ai → Prop) (n : Nat) (s' : Shared) : Prop
 | mk (i : Nat) (m' : bg) (σ' : ai) (rest : List V) (e1 : items.drop i = rest) (e2 : i ≤ items.length) (e3 : n = rest.length + 1) (st : St i s'.heap) (hσ : σ' I = Option.none) (R : RelG C σ' s') (F : FrameRel C env m' σ' s'.heap)
   (S : Step (fun b => qe env b ∨ b = I) σ σ' h s'.heap) (q : L rest m' σ') : ForInv C env σ h I items St L n s'
theorem a7 {target iter : Expr} {body : List Stmt} {pos : Pos} {g : Tgt} {I : IT} {T : ST} {loc : Bool} (ht : HT C sc k loc target g) (hi : HI C sc k iter I) (hb : HS C sc k body T)
  (hf : ∀ env x, foldedSetIterable iter env x = pure x) : HS1 C sc k (.For target iter body [] pos) (ch g I T) := by
 refine ⟨?_⟩; intro env A s m σ Q P E en ao R F q hP
 rw [exec_For]
 refine wpAny_bind (wpAny_standAt ?_)
 have start : wpAny (model C.prog C.w) A (eval iter env) (fun x s₁ => wpAny (model C.prog C.w) A (pyIter x) (fun it s₂ => codeAny (model C.prog C.w) A (.forLoop target it body [] env) (fun r s' => match r with | .ok f => P f s' | .error e => cameBackBy (model C.prog C.w) A env E e s') s₂) E s₁) E s := by
  refine hi.run env A s m σ _ _ E en ao R F q fun items inv I St σ₀ s₀ hit st₀ hI hσ₀ R₀ S₀ q₀ => ?_
  have F₀ := F.step R S₀
  obtain ⟨mm, hn, _⟩ := F.ns
  have hIL : I ≠ env.locals := fun e => absurd hn.lt (Nat.not_lt.mpr (e ▸ hI))
  have hIb : C.hB.get? I = Option.none := R.baseNone (aI hI)
  have back : ∀ {σ' : ai} {h' : Heap}, Step (fun b => qe env b ∨ b = I) σ σ' s.heap h' → Step (qe env) σ σ' s.heap h' := fun S =>
   S.mono fun b o e z => z.elim id fun z => absurd (Heap.lt_size e) (Nat.not_lt.mpr (z ▸ hI))
  refine codeAny_forLoop_any
   (ForInv C env σ s.heap I items St fun rest m' σ' => kj g inv T rest m' σ' Q) ?_ _
   ⟨0, m, σ₀, items, by simp, by simp, rfl, st₀, hσ₀, R₀, F₀, S₀.mono fun _ _ _ z => z.elim, q₀⟩
  rintro n s' ⟨i, m', σ', rest, e1, e2, rfl, st, hσ', R', F', S', q'⟩
  have drew : ∀ {h' : Heap}, Heap.ExtBut I s'.heap h' → s'.heap.objs.size ≤ h'.objs.size → Step (fun b => qe env b ∨ b = I) σ' σ' s'.heap h' := fun hx hsz =>
   .of (fun b o e _ q => hx b o (fun z => q (.inr z)) e) hsz fun _ a b => absurd a b
  cases rest with
  | nil =>
   have hil : i = items.length := kw e1 e2
   subst hil
   refine bv (hit.done A σ' s' _ _ ao R' q'.1 st fun h' tk hx hsz => ?_)
   exact wpAny_execs_nil (hP .next .next m' σ' _ .next (dP (tk := tk) R' hx hσ' hIb (hit.live _ _ st)) (de F' hx (hit.live _ _ st) hIL) (back (S'.trans (drew hx hsz))) q'.2)
  | cons v r =>
   obtain ⟨hinv, m₁, hm₁, q'⟩ := q'
   have hiv : items[i]? = some v := by
    have : (items.drop i)[0]? = some v := by rw [e1]; rfl
    simpa using this
   have hilt : i < items.length := mP e1
   refine bv (hit.next A σ' s' i v _ _ ao R' hinv st hiv fun w h₁ tk₁ hv st₁ hx hsz => ?_)
   have R₁ := dP (tk := tk₁) R' hx hσ' hIb (hit.live _ _ st)
   have F₁ := de F' hx (hit.live _ _ st) hIL
   have S₁ := S'.trans (drew hx hsz)
   refine hit.own A _ (i + 1) target w _ _ st₁ ?_
   refine ht.run env A _ m' m₁ σ' v w _ _ en ao R₁ F₁ hv hm₁ fun s₂ R₂ F₂ S₂L => ?_
   have S₂ : Step (qe env) σ' σ' h₁ s₂.heap := S₂L.mono fun _ _ _ z => z.imp id fun z => z.2
   have S₂' : Step (fun b => qe env b ∨ b = I) σ' σ' h₁ s₂.heap := S₂.mono fun _ _ _ z => .inl z
   have st₂ : St (i + 1) s₂.heap := hit.frame _ _ _ st₁ (fun o e => S₂.keep I o e hσ' (fun z => by
    rcases z with z | ⟨n, z⟩
    ·exact hIL z
    ·obtain ⟨u, ou, hou, hdu⟩ := F₁.cells n I z
     obtain ⟨o', ho', _, hc'⟩ := hit.live _ _ st₁
     have : ou = o' := Option.some.inj (hou.symm.trans ho')
     exact hc' u (this ▸ hdu)) (hit.flds _ _ st₁ o e)) (S₂.tupsO F₁ R₁)
   refine hb.run env A s₂ m₁ σ' _ _ _ en ao R₂ F₂ q' fun f fl m₃ σ₃ s₃ hf R₃ F₃ S₃ q₃ => ?_
   have S₃' : Step (fun b => qe env b ∨ b = I) σ' σ₃ s₂.heap s₃.heap := S₃.mono fun _ _ _ z => .inl z
   have SS := (S₁.trans S₂').trans S₃'
   have go : kj g inv T r m₃ σ₃ Q → ∃ k', k' < (v :: r).length + 1 ∧ ForInv C env σ s.heap I items St (fun rest m' σ' => kj g inv T rest m' σ' Q) k' s₃ := fun q₃ => by
    refine ⟨r.length + 1, Nat.lt_succ_self _, i + 1, m₃, σ₃, r, ?_, hilt, rfl, ?_, ?_, R₃, F₃, SS, q₃⟩
    ·rw [← List.tail_drop, e1]; rfl
    ·refine hit.frame _ _ _ st₂ (fun o e => S₃.keep I o e hσ' (fun z => ?_) (hit.flds _ _ st₂ o e)) (S₃.tupsO F₂ R₂)
     rcases z with z | ⟨n, z⟩
     ·exact hIL z
     ·obtain ⟨u, ou, hou, hdu⟩ := F₂.cells n I z
      obtain ⟨o', ho', _, hc'⟩ := hit.live _ _ st₂
      have : ou = o' := Option.some.inj (hou.symm.trans ho')
      exact hc' u (this ▸ hdu)
    ·cases z : σ₃ I with
     | none => rfl
     | some o =>
      obtain ⟨o', ho', _⟩ := hit.live _ _ st₂
      exact absurd (Heap.lt_size ho') (Nat.not_lt.mpr (S₃.new I hσ' (by rw [z]; simp)))
   cases hf with
   | next => exact go q₃
   | cont => exact go q₃
   | brk => exact hP .next .next m₃ σ₃ s₃ .next R₃ F₃ (back SS) q₃
   | ret hv => exact hP _ _ m₃ σ₃ s₃ (.ret hv) R₃ F₃ (back SS) q₃
 refine wpAny_bind (wpAny_mono start (fun x s₁ h₁ => wpAny_bind (wpAny_of_eq (hf env x) (wpAny_bind (wpAny_standAt (wpAny_bind (wpAny_holding (wpAny_mono h₁ (fun it s₂ h₂ => wpAny_runOwn h₂) fun _ _ h' => h'))))))) fun _ _ h' => h')
end
end Mine
end
noncomputable section
namespace Mine
open PySem
noncomputable def Hd (A : Around) (h : Heap) : Prop := A.handled = none ∨ ∃ e o vs, A.handled = some (.ref e) ∧ h.get? e = some o ∧ o.data = .fields vs ∧ vs[2]? = some .none
section
variable {prog : Program} {w : World} {A : Around} {E : Value → Shared → Prop} {s : Shared}
theorem la : entryFor table "proto.unchain" = some Builtin.«proto.unchain» := entryFor_of_fast (by kernel_rfl)
theorem k6 : plainId "proto.unchain" = true := by decide +kernel
theorem nC {e : Addr} {x : Value} {o : Obj} {vs : Array Value} {Q : Value → Shared → Prop} (ho : s.heap.get? e = some o) (hd : o.data = .fields vs) (h2 : vs[2]? = some .none) (h : Q .none s) :
  wpAny (model prog w) A (runValue (.builtin "proto.unchain" ⟨[x, .ref e, .ref e, .bool false], []⟩)) Q E s := by
 refine wpAny_runValue (codeAny_builtin la ?_)
 rw [Around.under_plainId k6 _]
 unfold Builtin.«proto.unchain»
 dsimp only
 refine wpAny_bind (wpAny_field ho hd h2 ?_)
 rw [if_pos (by decide)]
 exact wpAny_pure h
theorem uE {Q : Option Value → Shared → Prop} {P : Fin → Shared → Prop} (hh : Hd A s.heap) (h : ∀ h', (∀ b o, s.heap.get? b = some o → h'.get? b = some o) → Q none { s with heap := h' }) :
  wpAny (model prog w) A.in1 (do
    let e ← newExc (Value.type "StopIteration") []
    raiseNew e) P (fun e s' => wpAny (model prog w) A (do
     let b ← isInstance e (Value.type "StopIteration")
     if b = true then pure none else throw e) Q E s') s := by
 refine wpAny_bind ?_
 simp only [newExc, newTuple]
 refine wpAny_bind (wpAny_newObj_type ?_ (by size_fits))
 refine wpAny_bind (m := firstArgMember _ _) (wpAny_of_eq (a := Value.none) (by first | rfl | (simp only [firstArgMember]; rfl)) ?_)
 refine wpAny_newObj_type ?_ (by size_fits)
 simp only [raiseNew]
 refine wpAny_bind (wpAny_handled ?_)
 rcases hh with hh | ⟨e, o, vs, hh, ho, hd, h2⟩
 ·rw [show A.in1.handled = none from hh]
  refine wpAny_bind (wpAny_pure (wpAny_throw ?_))
  refine wpAny_bind (wpAny_isInstance (T := "StopIteration") (b := true) ⟨_, Heap.get?_push_size _ rfl, rfl⟩ isSubtype_stop ?_)
  exact wpAny_pure (h _ fun b o e => Heap.get?_push_of_some _ (Heap.get?_push_of_some _ e))
 ·rw [show A.in1.handled = some (.ref e) from hh]
  dsimp only
  have hlt := Heap.lt_size ho
  have hne : e ≠ s.heap.objs.size + 1 := Nat.ne_of_lt (Nat.lt_succ_of_lt hlt)
  rw [Heap.size_push]
  rw [if_pos (by simp [hne])]
  have ho2 := Heap.get?_push_of_some (h := s.heap.push { cls := .type "tuple", dict := none, data := .seq ([] : List Value).toArray }) { cls := .type "StopIteration", dict := none, data := .fields (#[.ref s.heap.objs.size, .none, .none, .none, .bool false, .none] ++ ownMembersOf (.type "StopIteration") []) } (Heap.get?_push_of_some _ ho)
  refine wpAny_bind (wpAny_holding (nC ho2 hd h2 ?_))
  have hn := Heap.get?_push_size (s.heap.push { cls := .type "tuple", dict := none, data := .seq ([] : List Value).toArray }) (o := { cls := .type "StopIteration", dict := none, data := .fields (#[.ref s.heap.objs.size, .none, .none, .none, .bool false, .none] ++ ownMembersOf (.type "StopIteration") []) }) rfl
  rw [Heap.size_push] at hn
  refine wpAny_bind (show wpAny _ _ (setField (.ref (s.heap.objs.size + 1)) 2 (.ref e)) _ _ _ from wpAny_setField hn rfl (by rw [Array.size_append]; show 2 < 6 + _; exact Nat.le_add_left _ _) (wpAny_throw ?_))
  have hd3 := Obj.data_mapFields (o := { cls := .type "StopIteration", dict := none, data := .fields (#[.ref s.heap.objs.size, .none, .none, .none, .bool false, .none] ++ ownMembersOf (.type "StopIteration") []) }) rfl (·.setIfInBounds 2 (Value.ref e))
  have hn3 := Heap.get?_update_self (Obj.mapFields (·.setIfInBounds 2 (Value.ref e))) hn (Obj.isFreed_of_fields hd3)
  refine wpAny_bind (wpAny_isInstance (T := "StopIteration") (b := true) ⟨_, hn3, Obj.cls_mapFields _ _⟩ isSubtype_stop ?_)
  refine wpAny_pure (h _ fun b o e => ?_)
  rw [Heap.get?_update_other _ _ (Ne.symm (Nat.ne_of_lt (Nat.lt_succ_of_lt (Heap.lt_size e))))]
  exact Heap.get?_push_of_some _ (Heap.get?_push_of_some _ e)
theorem lu {it l : Addr} {i : Nat} {items : Array Value} {Q : Option Value → Shared → Prop} (hh : Hd A s.heap)
  (hit : s.heap.IsListIter it l i) (hl : s.heap.IsList l items) (hx : items[i]? = none) (hie : ∀ e, A.handled = some (.ref e) → e ≠ it)
  (hQ : ∀ h', Heap.ExtBut it s.heap h' → Q none { s with heap := h' }) : wpAny (model prog w) A (pyNext (.ref it)) Q E s := by
 obtain ⟨o, ho, hc, hd⟩ := id hit
 obtain ⟨ol, hol, _, nl, hdl⟩ := hl
 unfold pyNext
 refine wpAny_bind (wpAny_attempt (wpAny_callSpecial?_slot (name := Str.ofString "__next__") hit.typeIs slot_listiter_next
  (wpAny_call_entry slot_listiter_next hit.typeIs entry_listiter_next ?_ (args_listiter_next _))))
 show wpAny _ _ (field (.ref it) 0 >>= _) _ _ s
 refine wpAny_bind (wpAny_field ho hd (x := .ref l) rfl ?_)
 show wpAny _ _ (if (Value.ref l == Value.none) = true then _ else _) _ _ s
 rw [if_neg (show ¬ ((Value.ref l == Value.none) = true) from Bool.false_ne_true)]
 show wpAny _ _ (field (.ref it) 1 >>= _) _ _ s
 refine wpAny_bind (wpAny_field ho hd (x := .int i 0) rfl ?_)
 show wpAny _ _ (seqItems? (.ref l) >>= _) _ _ s
 refine wpAny_bind (wpAny_seqItems hol hdl ?_)
 simp only [Int.toNat_natCast, hx]
 refine wpAny_bind (wpAny_rule (wpAny_bind (wpAny_setField ho hd (by simp) ?_)))
 refine uE ?_ fun h' hk => hQ h' fun b o' hb e => hk b o' ((Heap.SameBut.update s.heap it _).extBut b o' hb e)
 rcases hh with hh | ⟨e, o', vs, hh, ho', hd', h2⟩
 ·exact .inl hh
 ·exact .inr ⟨e, o', vs, hh, (Heap.get?_update_other _ _ (Ne.symm (hie e hh))).trans ho', hd', h2⟩
theorem jR {it t : Addr} {i : Nat} {items : Array Value} {Q : Option Value → Shared → Prop} (hh : Hd A s.heap)
  (hit : s.heap.IsTupleIter it t i) (ht : s.heap.IsTuple t items) (hx : items[i]? = none) (hie : ∀ e, A.handled = some (.ref e) → e ≠ it)
  (hQ : ∀ h', Heap.ExtBut it s.heap h' → Q none { s with heap := h' }) : wpAny (model prog w) A (pyNext (.ref it)) Q E s := by
 obtain ⟨o, ho, hc, hd⟩ := id hit
 obtain ⟨ol, hol, _, nl, hdl⟩ := ht
 unfold pyNext
 refine wpAny_bind (wpAny_attempt (wpAny_callSpecial?_slot (name := Str.ofString "__next__") hit.typeIs F.slot_tuple_iterator_next
  (wpAny_call_entry F.slot_tuple_iterator_next hit.typeIs F.entry_tuple_iterator_next ?_ (F.args_tuple_iterator_next_1 _))))
 show wpAny _ _ (field (.ref it) 0 >>= _) _ _ s
 refine wpAny_bind (wpAny_field ho hd (x := .ref t) rfl ?_)
 show wpAny _ _ (if (Value.ref t == Value.none) = true then _ else _) _ _ s
 rw [if_neg (show ¬ ((Value.ref t == Value.none) = true) from Bool.false_ne_true)]
 show wpAny _ _ (field (.ref it) 1 >>= _) _ _ s
 refine wpAny_bind (wpAny_field ho hd (x := .int i 0) rfl ?_)
 show wpAny _ _ (seqItems? (.ref t) >>= _) _ _ s
 refine wpAny_bind (wpAny_seqItems hol hdl ?_)
 simp only [Int.toNat_natCast, hx]
 refine wpAny_bind (wpAny_rule (wpAny_bind (wpAny_setField ho hd (by simp) ?_)))
 refine uE ?_ fun h' hk => hQ h' fun b o' hb e => hk b o' ((Heap.SameBut.update s.heap it _).extBut b o' hb e)
 rcases hh with hh | ⟨e, o', vs, hh, ho', hd', h2⟩
 ·exact .inl hh
 ·exact .inr ⟨e, o', vs, hh, (Heap.get?_update_other _ _ (Ne.symm (hie e hh))).trans ho', hd', h2⟩
theorem ut {env : Env} {elts : List Expr} {x1 : Nat} {pos : Pos} {t : Addr} {items : Array Value} {Q : Unit → Shared → Prop} (hh : Hd A s.heap) (ht : s.heap.IsTuple t items)
  (hn : (assignEach elts env).length = items.size) (hstar : (assignEach elts env).findIdx? (·.1) = none)
  (h : ∀ h', Heap.ExtBut s.heap.objs.size s.heap h' → wpAny (model prog w) A (assignInOrder ((assignEach elts env).map (·.2)) items.toList) Q E { s with heap := h' }) :
  wpAny (model prog w) A (assign (.Tuple elts x1 pos) env (.ref t)) Q E s := by
 rw [arm_assign_Tuple]
 refine wpAny_bind (wpAny_standAt ?_)
 unfold unpack
 rw [hn, hstar]
 refine wpAny_bind (wpAny_holding ?_)
 have hlt : t ≠ s.heap.objs.size := by obtain ⟨o, ho, _⟩ := ht; exact Nat.ne_of_lt (Heap.lt_size ho)
 unfold unpackItems
 refine wpAny_bind ?_
 unfold notIterableAtAll
 refine wpAny_bind (wpAny_specialOf ht.typeIs F.slot_tuple_iter.lookup ?_)
 refine wpAny_pure ?_
 simp only [Bool.false_eq_true, if_false]
 refine wpAny_bind (wpAny_holding (wpAny_pyIter_tuple ht ?_))
 refine wpAny_bind (wpAny_holding (wpAny_draw_tuple hlt items.size 0 _ _ ⟨_, Heap.get?_push_size _ rfl, rfl, rfl⟩ (ht.push _) (by exact aD fun hg => lN [(items.size)] 0x100101061 rfl hg) fun h₁ hit₁ hs₁ => ?_))
 have hall : List.take items.size (List.drop 0 items.toList) = items.toList := by
  rw [List.drop_zero]; exact List.take_of_length_le (by simp)
 rw [hall]
 rw [if_neg (by simp)]
 have ht₁ : h₁.IsTuple t items := (ht.push _).extBut hs₁.extBut hlt
 have hd₁ : Hd A h₁ := by
  rcases hh with hh | ⟨e, o', vs, hh, ho', hd', h2⟩
  ·exact .inl hh
  ·exact .inr ⟨e, o', vs, hh, hs₁.extBut e o' (Nat.ne_of_lt (Heap.lt_size ho')) (Heap.get?_push_of_some _ ho'), hd', h2⟩
 refine wpAny_bind (wpAny_holding (jR hd₁ hit₁ ht₁ (by simp) (fun e he => ?_) fun h₂ he₂ => ?_))
 ·rcases hh with hh | ⟨e', o', vs, hh, ho', hd', h2⟩
  ·rw [hh] at he; cases he
  ·rw [hh] at he; cases he; exact Nat.ne_of_lt (Heap.lt_size ho')
 simp only [Option.isSome_none, Bool.false_eq_true, if_false]
 exact wpAny_pure (h h₂ fun b o hb e => he₂ b o hb (hs₁.extBut b o hb (Heap.get?_push_of_some _ e)))
end
end Mine
end
noncomputable section
namespace Mine
open PySem
section
variable {C : Cx} {sc : Scope} {k : Nat}
theorem cD {I : Addr} {o : Obj} {n : String} {A : Around} {s : Shared} {t : Expr} {w : Value} {Q : Unit → Shared → Prop} {E : Value → Shared → Prop} (ho : s.heap.get? I = some o) (hc : o.cls = .type n)
  (hn : ["enumerate", "zip", "dict_itemiterator", "dict_reverseitemiterator", "odict_iterator", "itertools.zip_longest", "itertools.pairwise"].contains n = false) (q : Q () s) : wpAny (model C.prog C.w) A (letOwnedTupleGo t (.ref I) w) Q E s := by
 have fin : ∀ vs a, wpAny (model C.prog C.w) A (if (["enumerate", "zip", "dict_itemiterator", "dict_reverseitemiterator", "odict_iterator", "itertools.zip_longest", "itertools.pairwise"].contains n && (vs : Array Value)[0]? == some (rawInt a)) = true then (do rule "for.unpacks-the-owned-tuple"; updateField I 0 .none) else pure ()) Q E s := fun vs a => by
  rw [hn, Bool.false_and, if_neg Bool.false_ne_true]; exact wpAny_pure q
 cases t <;> first | exact wpAny_pure q | skip
 all_goals
  cases w <;> first | exact wpAny_pure q | skip
  refine wpAny_bind (wpAny_load ho ?_)
  rw [hc]
  cases hd : o.data <;> first | exact wpAny_pure q | exact fin _ _
theorem AOk.hd {A : Around} {σ : ai} {s : Shared} (ao : AOk C A k) (O : C.Ok) (R : RelG C σ s) : Hd A s.heap := by
 cases z : C.held with
 | none => exact .inl (ao.none z)
 | some e =>
  obtain ⟨o, vs, h1, h2, h3⟩ := O.heldOk e z
  exact .inr ⟨e, o, vs, by rw [ao.handled, z]; rfl, R.base _ _ h1, h2, h3⟩
theorem AOk.ne {A : Around} {σ : ai} {s : Shared} {I : Addr} {oI : Obj} {a b : Value} (ao : AOk C A k) (O : C.Ok) (R : RelG C σ s) (hI : s.heap.get? I = some oI) (hd : oI.data = .fields #[a, b]) : ∀ e, A.handled = some (.ref e) → e ≠ I := by
 rintro e he rfl
 rw [ao.handled] at he
 cases z : C.held with
 | none => rw [z] at he; cases he
 | some e' =>
  rw [z] at he; cases he
  obtain ⟨o, vs, h1, h2, h3⟩ := O.heldOk _ z
  have := R.base _ _ h1
  rw [hI] at this; cases this
  rw [hd] at h2; cases h2; cases h3
theorem t8 (O : C.Ok) (I a : Addr) (xs : List V) : It C k I xs (fun σ => σ a = some (.list xs)) (fun i h => h.IsListIter I a i) where
 frame := fun i h h' st kI _ => st.at kI
 live := fun i h ⟨o, ho, hc, hd⟩ => ⟨o, ho, (fun ⟨_, _, _, h2⟩ => by rw [hd] at h2; cases h2), (fun v h2 => by rw [hd] at h2; cases h2)⟩
 flds := fun i h ⟨o, ho, hc, hd⟩ o' ho' es ep z => by rw [ho] at ho'; cases ho'; rw [hd] at z; cases z
 next := fun A σ s i v Q E ao R inv st hv hQ => by
  obtain ⟨_, ws, h1, h2⟩ := R.view a _ inv
  obtain ⟨w, hw, hr⟩ := h2.get hv
  refine wpAny_pyNext_list_item st h1.isList (x := w) (by simpa using hw) fun h' st' hs' => hQ w h' s.toks (hr.keep ?_) st' hs'.extBut
  obtain ⟨o, ho, hc, hd⟩ := st
  exact fun b ob e ht => hs'.extBut b ob (by rintro rfl; rw [ho] at e; cases e; obtain ⟨_, _, _, h2⟩ := ht; rw [hd] at h2; cases h2) e
 done := fun A σ s Q E ao R inv st hQ => by
  obtain ⟨_, ws, h1, h2⟩ := R.view a _ inv
  obtain ⟨oI, hoI, _, hdI⟩ := id st
  exact lu (ao.hd O R) st h1.isList (by have := h2.length; simp [this]) (ao.ne O R hoI hdI) fun h' hx => hQ h' s.toks hx
 self := fun A s i Q E st q => wpAny_pyIter_listiter st q
 own := fun A s i t w Q E ⟨o, ho, hc, hd⟩ q => cD ho hc (by decide) q
theorem rx (O : C.Ok) (I : Addr) : It C k I (C.ns.map .int) (fun _ => True) (fun i h => h.IsListIter I C.aS i) where
 frame := fun i h h' st kI _ => st.at kI
 live := fun i h ⟨o, ho, hc, hd⟩ => ⟨o, ho, (fun ⟨_, _, _, h2⟩ => by rw [hd] at h2; cases h2), (fun v h2 => by rw [hd] at h2; cases h2)⟩
 flds := fun i h ⟨o, ho, hc, hd⟩ o' ho' es ep z => by rw [ho] at ho'; cases ho'; rw [hd] at z; cases z
 next := fun A σ s i v Q E ao R inv st hv hQ => by
  obtain ⟨ws, h1, h2, h3⟩ := O.script
  rw [List.getElem?_map] at hv
  obtain ⟨n, hn, rfl⟩ := Option.map_eq_some_iff.mp hv
  obtain ⟨t, ht⟩ := h3 i n hn
  refine wpAny_pyNext_list_item st (h1.at fun o e => R.base _ _ e) (x := .int n t) (by simpa using ht) fun h' st' hs' => hQ _ h' s.toks (.int n t) st' hs'.extBut
 done := fun A σ s Q E ao R inv st hQ => by
  obtain ⟨ws, h1, h2, h3⟩ := O.script
  obtain ⟨oI, hoI, _, hdI⟩ := id st
  exact lu (ao.hd O R) st (h1.at fun o e => R.base _ _ e) (by simp at h2; simp [h2]) (ao.ne O R hoI hdI) fun h' hx => hQ h' s.toks hx
 self := fun A s i Q E st q => wpAny_pyIter_listiter st q
 own := fun A s i t w Q E ⟨o, ho, hc, hd⟩ q => cD ho hc (by decide) q
theorem vC (O : C.Ok) (I a : Addr) (vs : List V) (ws : List Value) : It C k I vs (fun _ => True) (fun i h => h.IsTupleIter I a i ∧ h.IsTuple a ws.toArray ∧ VRels C.aS h vs ws) where
 frame := fun i h h' st kI kt => ⟨st.1.at kI, let ⟨o, ho, hc, n, r⟩ := st.2.1; ⟨o, kt a o ho ⟨hc, _, n, r⟩, hc, n, r⟩, st.2.2.keep kt⟩
 live := fun i h ⟨⟨o, ho, hc, hd⟩, _⟩ => ⟨o, ho, (fun ⟨_, _, _, h2⟩ => by rw [hd] at h2; cases h2), (fun v h2 => by rw [hd] at h2; cases h2)⟩
 flds := fun i h ⟨⟨o, ho, hc, hd⟩, _⟩ o' ho' es ep z => by rw [ho] at ho'; cases ho'; rw [hd] at z; cases z
 next := fun A σ s i v Q E ao R inv st hv hQ => by
  obtain ⟨w, hw, hr⟩ := st.2.2.get hv
  obtain ⟨o, ho, hc, hd⟩ := id st.1
  have kt : ∀ h', Heap.SameBut I s.heap h' → a6 s.heap h' := fun h' hs' b ob e ht => hs'.extBut b ob (by rintro rfl; rw [ho] at e; cases e; obtain ⟨_, _, _, h2⟩ := ht; rw [hd] at h2; cases h2) e
  refine wpAny_pyNext_tuple_item st.1 st.2.1 (x := w) (by simpa using hw) fun h' st' hs' => hQ w h' s.toks (hr.keep (kt h' hs')) ⟨st', ?_, st.2.2.keep (kt h' hs')⟩ hs'.extBut
  obtain ⟨o, ho, hc, n, r⟩ := st.2.1
  exact ⟨o, kt h' hs' a o ho ⟨hc, _, n, r⟩, hc, n, r⟩
 done := fun A σ s Q E ao R inv st hQ => jR (ao.hd O R) st.1 st.2.1 (by have := st.2.2.length; simp [this]) (let ⟨_, hoI, _, hdI⟩ := st.1; ao.ne O R hoI hdI) fun h' hx => hQ h' s.toks hx
 self := fun A s i Q E st q => wpAny_pyIter_tupleiter st.1 q
 own := fun A s i t w Q E ⟨⟨o, ho, hc, hd⟩, _⟩ q => cD ho hc (by decide) q
noncomputable def gE (x : Str) : List V := x.cps.toList.map fun c => .str ⟨#[c]⟩
theorem sQ (hz : C.held = none) (I : Addr) (cls : String) (x : Str) (t : Tok) (hcls : cls = "str_ascii_iterator" ∨ cls = "str_iterator") : It C k I (gE x) (fun _ => True) (fun i h => h.IsStrIter I cls x t i) where
 frame := fun i h h' ⟨o, ho, r⟩ kI _ => ⟨o, kI o ho, r⟩
 live := fun i h ⟨o, ho, hc, hd⟩ => ⟨o, ho, (fun ⟨_, _, _, h2⟩ => by rw [hd] at h2; cases h2), (fun v h2 => by rw [hd] at h2; cases h2)⟩
 flds := fun i h ⟨o, ho, hc, hd⟩ o' ho' es ep z => by rw [ho] at ho'; cases ho'; rw [hd] at z; cases z
 next := fun A σ s i v Q E ao R inv st hv hQ => by
  unfold gE at hv
  rw [List.getElem?_map] at hv
  obtain ⟨c, hc, rfl⟩ := Option.map_eq_some_iff.mp hv
  rcases hcls with rfl | rfl
  ·exact wpAny_pyNext_ascii_item st (c := c) (by simpa using hc) fun h' st' hs' => hQ _ h' _ (.str _ _) st' hs'.extBut
  ·exact wpAny_pyNext_wide_item st (c := c) (by simpa using hc) fun h' st' hs' => hQ _ h' _ (.str _ _) st' hs'.extBut
 done := fun A σ s Q E ao R inv st hQ => by
  rcases hcls with rfl | rfl
  ·exact wpAny_pyNext_ascii_end (ao.none hz) st (by simp [gE]) fun h' hx => hQ h' s.toks hx
  ·exact wpAny_pyNext_wide_end (ao.none hz) st (by simp [gE]) fun h' hx => hQ h' s.toks hx
 self := fun A s i Q E st q => by
  rcases hcls with rfl | rfl
  ·exact wpAny_pyIter_striter_ascii st q
  ·exact wpAny_pyIter_striter_wide st q
 own := fun A s i t w Q E ⟨o, ho, hc, hd⟩ q => by
  rcases hcls with rfl | rfl
  ·exact cD ho hc (by decide) q
  ·exact cD ho hc (by decide) q
theorem ua (hz : C.held = none) (I d : Addr) (kvs : List (Str × V)) (ep : Nat) : It C k I (kvs.map fun p => .str p.1) (fun σ => σ d = some (.dict kvs ep)) (fun i h => h.IsKeyIter I d i kvs.length ep) where
 frame := fun i h h' st kI _ => st.at kI
 live := fun i h ⟨o, ho, hc, hd⟩ => ⟨o, ho, (fun ⟨_, _, _, h2⟩ => by rw [hd] at h2; cases h2), (fun v h2 => by rw [hd] at h2; cases h2)⟩
 flds := fun i h ⟨o, ho, hc, hd⟩ o' ho' es ep z => by rw [ho] at ho'; cases ho'; rw [hd] at z; cases z
 next := fun A σ s i v Q E ao R inv st hv hQ => by
  obtain ⟨_, kws, h1, h2⟩ := R.view d _ inv
  rw [List.getElem?_map] at hv
  obtain ⟨⟨key, u⟩, hku, rfl⟩ := Option.map_eq_some_iff.mp hv
  obtain ⟨w, hw, _⟩ := PRel.get h2 hku
  have st' : s.heap.IsKeyIter I d i kws.length ep := by rw [← h2.length]; exact st
  refine wpAny_pyNext_dict_item st' h1 hw fun kv h' hkey hit' hs' => hQ kv h' s.toks ?_ (by rw [h2.length]; exact hit') hs'.extBut
  cases kv with
  | str y t =>
   have : y = key := by simpa [strKind, Value.isStrOf] using hkey
   subst this; exact .str _ _
  | _ => simp [strKind, Value.isStrOf] at hkey
 done := fun A σ s Q E ao R inv st hQ => by
  obtain ⟨_, kws, h1, h2⟩ := R.view d _ inv
  have e : (kvs.map fun p : Str × V => V.str p.1).length = kws.length := by rw [List.length_map, h2.length]
  have st' : s.heap.IsKeyIter I d kws.length kws.length ep := by rw [← e]; simpa using st
  exact wpAny_pyNext_dict_end (ao.none hz) st' h1 (by simp) fun h' hx => hQ h' s.toks hx
 self := fun A s i Q E st q => wpAny_pyIter_keyiter st q
 own := fun A s i t w Q E ⟨o, ho, hc, hd⟩ q => cD ho hc (by decide) q
noncomputable def cK (a : Int) (n : Nat) : List V := (List.range n).map fun (i : Nat) => .int (a + i)
theorem sR (hz : C.held = none) (I : Addr) (a : Int) (n : Nat) : It C k I (cK a n) (fun _ => True) (fun i h => IsRangeIter h I (a + (i : Nat) * 1) ((n : Int) - (i : Nat)) 1) where
 frame := fun i h h' st kI _ => kI _ st
 live := fun i h st => ⟨_, st, fun ⟨_, _, _, h2⟩ => by simp at h2, fun v h2 => by simp at h2⟩
 flds := fun i h st o' ho' es ep z => by rw [st] at ho'; cases ho'; cases z
 next := fun A σ s i v Q E ao R inv st hv hQ => by
  unfold cK at hv
  rw [List.getElem?_map] at hv
  obtain ⟨j, hj, rfl⟩ := Option.map_eq_some_iff.mp hv
  have hjn := List.getElem?_eq_some_iff.mp hj
  obtain ⟨hlt, hji⟩ := hjn
  simp at hji hlt
  subst hji
  refine wpAny_pyNext_range_item st (Int.sub_pos_of_lt (Int.ofNat_lt.mpr hlt)) fun h' hit' hs' => ?_
  have e1 : a + ((i + 1 : Nat) : Int) * 1 = a + (i : Int) * 1 + 1 := by rw [Int.mul_one, Int.mul_one, Int.add_assoc]; rfl
  have e2 : (n : Int) - ((i + 1 : Nat) : Int) = (n : Int) - (i : Int) - 1 := by rw [Int.sub_sub]; rfl
  refine hQ _ h' _ ?_ (by rw [e1, e2]; exact hit') hs'.extBut
  rw [Int.mul_one]; exact .int _ _
 done := fun A σ s Q E ao R inv st hQ => wpAny_pyNext_range_end (ao.none hz) st (by simp [cK]) fun h' hx => hQ h' s.toks hx
 self := fun A s i Q E st q => wpAny_pyIter_rangeiter st q
 own := fun A s i t w Q E st q => cD st rfl (by decide) q
noncomputable def jI (a : Addr) (σ : ai) (Q : List V → (ai → Prop) → ai → Prop) (o : Option AObj) : Prop := match o with
 | some (.list xs) => Q xs (fun σ => σ a = some (.list xs)) σ
 | some (.dict kvs ep) => Q (kvs.map fun p => .str p.1) (fun σ => σ a = some (.dict kvs ep)) σ
 | _ => False
noncomputable def iT (ns : List Int) : V → ai → (List V → (ai → Prop) → ai → Prop) → Prop
 | .str x, σ, Q => Q (gE x) (fun _ => True) σ
 | .tup vs, σ, Q => Q vs (fun _ => True) σ
 | .script, σ, Q => Q (ns.map .int) (fun _ => True) σ
 | .ref a, σ, Q => jI a σ Q (σ a)
 | _, _, _ => False
noncomputable def fR (ns : List Int) (T : ET) : IT := fun m σ Q => T m σ fun v σ' => iT ns v σ' Q
theorem bL (O : C.Ok) (hz : C.held = none) {e : Expr} {T : ET} (he : HE C sc k e T) : HI C sc k e (fR C.ns T) := by
 refine ⟨?_⟩; intro env A s m σ Q P E en ao R F q hP
 refine he.run env A s m σ _ _ E en ao R F q fun v w σ₁ s₁ hv R₁ S₁ q₁ => ?_
 have fr : s.heap.objs.size ≤ s₁.heap.objs.size := S₁.size
 have hn := R₁.freshNone (bV s₁.heap)
 have Rp : ∀ o, RelG C σ₁ { s₁ with heap := s₁.heap.push o } := fun o => R₁.grow (tk := s₁.toks) aX
 have Sp : ∀ o, Step no σ σ₁ s.heap (s₁.heap.push o) := fun o => S₁.trans .push
 cases hv with
 | none => exact q₁.elim
 | bool => exact q₁.elim
 | int => exact q₁.elim
 | ty => exact q₁.elim
 | str x t =>
  cases ha : x.cps.all (· < 128)
  ·exact wpAny_pyIter_wide ha (hP _ _ _ _ σ₁ _ (sQ hz _ "str_iterator" x t (.inr rfl)) ⟨_, Heap.get?_push_size _ rfl, rfl, rfl⟩ fr hn (Rp _) (Sp _) q₁)
  ·exact wpAny_pyIter_ascii ha (hP _ _ _ _ σ₁ _ (sQ hz _ "str_ascii_iterator" x t (.inl rfl)) ⟨_, Heap.get?_push_size _ rfl, rfl, rfl⟩ fr hn (Rp _) (Sp _) q₁)
 | script =>
  obtain ⟨ws, h1, h2, h3⟩ := O.script
  exact wpAny_pyIter_list (h1.at fun o e => R₁.base _ _ e) (hP _ _ _ _ σ₁ _ (rx O _) ⟨_, Heap.get?_push_size _ rfl, rfl, rfl⟩ fr hn (Rp _) (Sp _) q₁)
 | tup ht hvs =>
  exact wpAny_pyIter_tuple ht (hP _ _ _ _ σ₁ _ (vC O _ _ _ _) ⟨⟨_, Heap.get?_push_size _ rfl, rfl, rfl⟩, ht.push _, hvs.keep fun _ _ e _ => aX _ _ e⟩ fr hn (Rp _) (Sp _) q₁)
 | ref a =>
  replace q₁ : jI a σ₁ Q (σ₁ a) := q₁
  cases hx : σ₁ a with
  | none => rw [hx] at q₁; exact False.elim q₁
  | some o =>
  rw [hx] at q₁
  cases o <;> first | exact False.elim q₁ | skip
  ·rename_i xs
   obtain ⟨_, ws, h1, h2⟩ := R₁.view a _ hx
   exact wpAny_pyIter_list h1.isList (hP _ _ _ _ σ₁ _ (t8 O _ a xs) ⟨_, Heap.get?_push_size _ rfl, rfl, rfl⟩ fr hn (Rp _) (Sp _) q₁)
  ·rename_i kvs ep
   obtain ⟨_, kws, h1, h2⟩ := R₁.view a _ hx
   refine wpAny_pyIter_dict (O.noMods (R₁.apart a (by rw [hx]; simp))) h1 (hP _ _ _ _ σ₁ _ (ua hz _ a kvs ep) ⟨_, Heap.get?_push_size _ rfl, rfl, by rw [← h2.length]; rfl⟩ fr hn (Rp _) (Sp _) q₁)
noncomputable def jC : List V → ai → (List V → (ai → Prop) → ai → Prop) → Prop
 | v :: r, σ, Q => isI v fun a => match r with
  | [] => (-(2 ^ 62) ≤ a ∧ a < 2 ^ 62) ∧ Q (cK 0 a.toNat) (fun _ => True) σ
  | u :: r => on1 (u :: r) fun u => isI u fun b => (-(2 ^ 62) ≤ a ∧ a < 2 ^ 62 ∧ -(2 ^ 62) ≤ b ∧ b < 2 ^ 62) ∧ Q (cK a (b - a).toNat) (fun _ => True) σ
 | _, _, _ => False
noncomputable def cz (L : LT) : IT := fun m σ Q => L m σ fun vs σ' => jC vs σ' Q
theorem tw (O : C.Ok) (hz : C.held = none) {np pos : Pos} {es : List Expr} {L : LT} (hl : HL C sc k es L) (hp : aO es = true)
  (hn : sc.names.lookup (Str.ofString "range") = some .globalImplicit) (hg : C.mg (Str.ofString "range") = Option.none) (hb : C.mb (Str.ofString "range") = some (.type "range")) :
  HI C sc k (.Call (.Name (Str.ofString "range") np) es [] pos) (cz L) := by
 refine ⟨?_⟩; intro env A s m σ Q P E en ao R F q hP
 refine wpAny_Call_NameR (Calls.Name_function_global en.k (en.of hn) (Calls.loadGlobal_builtin (mg := C.mg) (mb := C.mb) (by rw [en.globals]; exact O.g.keeps R.base) hg (by rw [en.builtins]; exact O.b.keeps R.base) hb ?_) (by decide))
 refine callWith_type (bp hp) (bE hp (hl.run env A s m σ pos _ _ E en ao R F q fun vs ws σ₁ s₁ hv R₁ S₁ q₁ => ?_))
 have fr : s.heap.objs.size ≤ s₁.heap.objs.size + 1 := Nat.le_succ_of_le S₁.size
 have hσ : σ₁ (s₁.heap.objs.size + 1) = Option.none := R₁.freshNone (aI (Nat.le_succ _))
 have go : ∀ (a b : Int) (o : Obj) (tk : Nat) (t u v : Tok), -(2 ^ 62) ≤ a → a < 2 ^ 62 → -(2 ^ 62) ≤ b → b < 2 ^ 62 → o = { cls := .type "range", data := .fields #[.int a t, .int b u, .int 1 v] } → Q (cK a (b - a).toNat) (fun _ => True) σ₁ →
   wpAny (model C.prog C.w) A (pyIter (.ref s₁.heap.objs.size)) P E { s₁ with heap := s₁.heap.push o, toks := tk } := by
  rintro a b o tk t u v h1 h2 h3 h4 rfl q₁
  refine wpAny_pyIter_range (IsRange.new ..) (small_one h1 h2 h3 h4) ?_
  have hsz : Builtin.Range.rangeSize a b 1 = ((b - a).toNat : Int) := by rw [rangeSize_one]; split <;> omega
  have hit := sR (C := C) (k := k) hz (s₁.heap.objs.size + 1) a (b - a).toNat
  have R₂ : RelG C σ₁ { s₁ with heap := (s₁.heap.push { cls := .type "range", data := .fields #[.int a t, .int b u, .int 1 v] }).push { cls := .type "range_iterator", data := .fields #[rawInt a, rawInt (Builtin.Range.rangeSize a b 1), rawInt 1] }, toks := tk } :=
   R₁.grow fun _ _ e => aX _ _ (aX _ _ e)
  have e := Heap.get?_push_size (s₁.heap.push { cls := .type "range", data := .fields #[.int a t, .int b u, .int 1 v] }) (o := { cls := .type "range_iterator", data := .fields #[rawInt a, rawInt (Builtin.Range.rangeSize a b 1), rawInt 1] }) rfl
  rw [Heap.size_push] at e
  have this := hP _ _ _ _ σ₁ _ hit (by
    show IsRangeIter ((s₁.heap.push { cls := .type "range", data := .fields #[.int a t, .int b u, .int 1 v] }).push { cls := .type "range_iterator", data := .fields #[rawInt a, rawInt (Builtin.Range.rangeSize a b 1), rawInt 1] }) _ _ _ _
    unfold IsRangeIter
    rw [e, hsz]; simp) fr hσ R₂ ((S₁.trans .push).trans .push) q₁
  rw [Heap.size_push]
  exact this
 show wpAny _ A (PySem.call (.type "range") ([] ++ ws)) _ _ _
 rw [List.nil_append]
 cases hv with
 | nil => exact False.elim q₁
 | cons h1 r =>
  obtain ⟨n, rfl, q₂⟩ := isI.elim q₁
  clear q₁
  cases h1 with | int _ t =>
  cases r with
  | nil =>
   have q₁ := q₂
   refine call_range_1 (go 0 _ _ _ _ _ _ (by decide) (by decide) q₁.1.1 q₁.1.2 rfl ?_)
   rw [Int.sub_zero]; exact q₁.2
  | cons h2 r =>
   obtain ⟨u, e, q₃⟩ := on1.elim q₂
   cases e
   obtain ⟨b, rfl, q₁⟩ := isI.elim q₃
   cases r with | nil => cases h2 with | int _ u =>
   exact call_range_2 (go _ _ _ _ _ _ _ q₁.1.1 q₁.1.2.1 q₁.1.2.2.1 q₁.1.2.2.2 rfl q₁.2)
end
end Mine
end
noncomputable section
namespace Mine
open PySem
noncomputable def jK (cells : List (Str × Addr)) : List (Str × NameKind) → List (Str × Addr) → List (Str × Addr)
 | [], acc => acc
 | (n, q) :: r, acc => if q == .free then jK cells r ((n, (cells.lookup n).getD 0) :: acc) else jK cells r acc
theorem kD {env : Env} {scope : Scope} (h : ∀ p ∈ scope.names, p.2 = .free → ∃ c, env.cells.lookup p.1 = some c) : closureFor scope env = pure (jK env.cells scope.names []) := by
 unfold closureFor
 have key : ∀ (l : List (Str × NameKind)) (acc : List (Str × Addr)), (∀ p ∈ l, p.2 = .free → ∃ c, env.cells.lookup p.1 = some c) →
   (forIn l acc fun p r => (if (p.2 == NameKind.free) = true then do let c ← cellOf env p.1; pure (ForInStep.yield ((p.1, c) :: r)) else pure (ForInStep.yield r) : Sem (ForInStep (List (Str × Addr))))) = pure (jK env.cells l acc) := by
  intro l
  induction l with
  | nil => intro acc _; rfl
  | cons p r ih =>
   intro acc hp
   rw [List.forIn_cons]
   obtain ⟨n, q⟩ := p
   unfold jK
   cases hq : (q == NameKind.free) with
   | true =>
    obtain ⟨c, hc⟩ := hp (n, q) (.head _) (by simpa using hq)
    simp only [cellOf, hc, if_true, pure_bind, Option.getD_some]
    exact ih _ fun p hp' => hp p (.tail _ hp')
   | false =>
    simp only [Bool.false_eq_true, if_false, pure_bind]
    exact ih _ fun p hp' => hp p (.tail _ hp')
 have := key scope.names [] h
 simpa using congrArg (fun t => t >>= fun cs => (pure cs : Sem _)) this
theorem kE {cells : List (Str × Addr)} : ∀ (l : List (Str × NameKind)) (acc : List (Str × Addr)), (∀ p ∈ l, p.2 = .free → ∃ c, cells.lookup p.1 = some c) → ∀ n,
  ((jK cells l acc).lookup n = if (n, NameKind.free) ∈ l then cells.lookup n else acc.lookup n)
 | [], acc, _, n => by simp [jK]
 | (y, q) :: r, acc, h, n => by
  unfold jK
  have ih := fun acc => kE r acc (fun p hp => h p (.tail _ hp)) n
  cases hq : (q == NameKind.free) with
  | true =>
   have hq' : q = .free := by simpa using hq
   obtain ⟨c, hc⟩ := h (y, q) (.head _) hq'
   rw [if_pos rfl, ih]
   subst hq'
   by_cases hr : (n, NameKind.free) ∈ r
   ·simp [hr]
   ·rw [if_neg hr]
    by_cases hy : n = y
    ·subst hy; simp [hc]
    ·have : (n == y) = false := by simp [hy]
     simp [hr, hy, List.lookup_cons, this]
  | false =>
   have hq' : q ≠ .free := by simpa using hq
   rw [if_neg Bool.false_ne_true, ih]
   have : ((n, NameKind.free) ∈ (y, q) :: r) ↔ (n, NameKind.free) ∈ r := by simp [Ne.symm hq']
   simp [this]
theorem kF {cells : List (Str × Addr)} (hd : cells.Pairwise fun x y => x.2 ≠ y.2) : ∀ (l : List (Str × NameKind)) (acc : List (Str × Addr)), (∀ p ∈ l, p.2 = .free → ∃ c, cells.lookup p.1 = some c) → (l.map (·.1)).Nodup →
  (∀ p ∈ acc, cells.lookup p.1 = some p.2 ∧ p.1 ∉ l.map (·.1)) → acc.Pairwise (fun x y => x.2 ≠ y.2) → (jK cells l acc).Pairwise fun x y => x.2 ≠ y.2
 | [], acc, _, _, _, h => by simpa [jK] using h
 | (y, q) :: r, acc, h, hn, ha, hp => by
  unfold jK
  rw [List.map_cons, List.nodup_cons] at hn
  cases hq : (q == NameKind.free) with
  | true =>
   obtain ⟨c, hc⟩ := h (y, q) (.head _) (by simpa using hq)
   rw [if_pos rfl]
   refine kF hd r _ (fun p hp => h p (.tail _ hp)) hn.2 ?_ ?_
   ·intro p hp'
    rcases List.mem_cons.mp hp' with rfl | hp'
    ·exact ⟨by simp [hc], hn.1⟩
    ·exact ⟨(ha p hp').1, fun z => (ha p hp').2 (.tail _ z)⟩
   ·refine List.pairwise_cons.mpr ⟨fun p hp' e => ?_, hp⟩
    rw [hc] at e
    simp only [Option.getD_some] at e
    have := name_of_addr hd (mem_of_lookup hc) (mem_of_lookup (e ▸ (ha p hp').1))
    exact (ha p hp').2 (by rw [← this]; exact .head _)
  | false =>
   rw [if_neg Bool.false_ne_true]
   exact kF hd r acc (fun p hp => h p (.tail _ hp)) hn.2 (fun p hp' => ⟨(ha p hp').1, fun z => (ha p hp').2 (.tail _ z)⟩) hp
noncomputable def fL (sc : Scope) (n : Str) (q : NameKind) : NameKind := if (q == .free && sc.kind == .function && sc.names.lookup n == some .cell) then .cell else q
noncomputable def fM (sc scope : Scope) : Scope := { scope with names := scope.names.map fun p => (p.1, fL sc p.1 p.2) }
theorem pK {cs : Scope} {env : Env} : relabel cs env = fM env.scope cs := by
 unfold relabel fM Env.kindOf fL
 congr 1
 refine List.map_congr_left fun p _ => ?_
 obtain ⟨n, q⟩ := p
 dsimp only
 split <;> rfl
theorem e8 {sc : Scope} : ∀ (l : List (Str × NameKind)) (n : Str), (l.map fun p => (p.1, fL sc p.1 p.2)).lookup n = (l.lookup n).map (fL sc n)
 | [], n => rfl
 | (y, q) :: r, n => by
  rw [List.map_cons, List.lookup_cons, List.lookup_cons]
  by_cases hy : n = y
  ·subst hy; simp
  ·have hb : (n == y) = false := by simp [hy]
   simp only [hb]
   exact e8 r n
theorem rf {sc : Scope} {l : List (Str × NameKind)} {n : Str} (h : l.lookup n = some .free) : (l.map fun p => (p.1, fL sc p.1 p.2)).lookup n = some .cell ∨ (l.map fun p => (p.1, fL sc p.1 p.2)).lookup n = some .free := by
 rw [e8, h, Option.map_some]
 unfold fL
 split
 ·exact .inl rfl
 ·exact .inr rfl
theorem rg {sc : Scope} {l : List (Str × NameKind)} {n : Str} (h : (l.map fun p => (p.1, fL sc p.1 p.2)).lookup n = some .cell) : (n, NameKind.free) ∈ l ∨ (n, NameKind.cell) ∈ l := by
 rw [e8] at h
 obtain ⟨q, hq, e⟩ := Option.map_eq_some_iff.mp h
 unfold fL at e
 split at e
 ·rename_i hc
  have : q = .free := by simp at hc; exact hc.1.1
  subst this
  exact .inl (mem_of_lookup hq)
 ·subst e; exact .inr (mem_of_lookup hq)
theorem l9 {sc : Scope} {l : List (Str × NameKind)} {n : Str} (h : (l.map fun p => (p.1, fL sc p.1 p.2)).lookup n = some .free) : (n, NameKind.free) ∈ l := by
 rw [e8] at h
 obtain ⟨q, hq, e⟩ := Option.map_eq_some_iff.mp h
 unfold fL at e
 split at e
 ·cases e
 ·subst e; exact mem_of_lookup hq
section
variable {C : Cx} {sc : Scope} {k : Nat}
structure HTs (C : Cx) (sc : Scope) (k : Nat) (ifs : List Expr) (B : BT) : Prop where
 run : ∀ (env : Env) (A : Around) (s : Shared) (m : bg) (σ : ai) (Q : Bool → ai → Prop) (P : Bool → Shared → Prop) (E : Value → Shared → Prop),
  EnvOk env sc → AOk C A k → RelG C σ s → FrameRel C env m σ s.heap → B m σ Q →
  (∀ b σ' s', RelG C σ' s' → Step no σ σ' s.heap s'.heap → Q b σ' → P b s') →
  wpAny (model C.prog C.w) A (forIn ifs true fun c r => if r = true then do let ok ← isTrue c env (eval c env); pure (ForInStep.yield ok) else pure (ForInStep.yield r)) P E s
theorem fw : HTs C sc k [] tT := ⟨fun _ _ s _ σ _ _ _ _ _ R _ q hP => wpAny_tests_nil (hP true σ s R Step.refl q)⟩
theorem fu {c : Expr} {B : BT} (h : HB C sc k c B) : HTs C sc k [c] B := ⟨fun env A s m σ Q P E en ao R F q hP => wpAny_tests_one (h.run env A s m σ Q P E en ao R F q hP)⟩
noncomputable def only (fv : List String) (m : bg) : bg := fun x => if x ∈ fv then m x else Option.none
noncomputable def dn (g : Tgt) (inv : ai → Prop) (B : BT) (T : ET) (m : bg) : List V → List V → ai → (List V → ai → Prop) → Prop
 | [], acc, σ, Q => inv σ ∧ Q acc σ
 | v :: r, acc, σ, Q => inv σ ∧ ∃ m', fV g v m = some m' ∧ B m' σ fun b σ₁ => if b then T m' σ₁ fun y σ₂ => acc.length < 1048576 ∧ dn g inv B T m r (acc ++ [y]) σ₂ Q else dn g inv B T m r acc σ₁ Q
noncomputable def dm (fv : List String) (g : Tgt) (I : IT) (B : BT) (T : ET) : ET := fun m σ Q => I m σ fun items inv σ' => dn g inv B T (only fv m) items [] σ' fun ys σ'' => dc ys σ'' Q
noncomputable def Tgt.names : Tgt → List String
 | .name x => [x]
 | .tup xs => xs
theorem jh : ∀ (xs : List String) (vs : List V) (m : bg) (y : String), y ∉ xs → aF xs vs m y = m y
 | [], _, _, _, _ => by simp [aF]
 | x :: xs, [], _, _, _ => by simp [aF]
 | x :: xs, v :: vs, m, y, h => by
  simp only [aF]
  rw [jh xs vs _ y (fun z => h (.tail _ z))]
  exact gR (fun z => h (by rw [z]; exact .head _))
theorem oJ {g : Tgt} {v : V} {m m' : bg} (h : fV g v m = some m') {y : String} (hy : y ∉ g.names) : m' y = m y := by
 cases g with
 | name x => cases h; exact gR (fun z => hy (by simp [Tgt.names, z]))
 | tup xs =>
  cases v <;> simp [fV] at h
  obtain ⟨_, rfl⟩ := h
  exact jh _ _ _ _ hy
theorem FrameRel.weaken {env : Env} {m m' : bg} {σ : ai} {h : Heap} (F : FrameRel C env m' σ h) (hw : ∀ x v, m x = some v → m' x = some v) : FrameRel C env m σ h :=
 ⟨let ⟨mm, h1, h2⟩ := F.ns; ⟨mm, h1, fun x v e q => h2 x v (hw x v e) q⟩, fun x v e => F.cel x v (hw x v e), F.cells, F.sepL, F.baseL, F.baseC, F.dist, F.has⟩
theorem mQ {A : Around} {R : Result → Shared → Prop} {s : Shared} {elt target iter : Expr} {ifs : List Expr} {scope : Scope} {pos : Pos} {it acc : Value} {env : Env} (I : Nat → Shared → Prop)
  (turn : ∀ n s, I n s → wpAny (model C.prog C.w) A (pyNext it) (fun r s₁ => match r with
   | Option.none => R (.ok .next) s₁
   | some v => wpAny (model C.prog C.w) A (letOwnedTupleGo target it v) (fun _ s₁' => wpAny (model C.prog C.w) A (assign target env v) (fun _ s₂ =>
     wpAny (model C.prog C.w) A (forIn ifs true fun c r => if r = true then do let ok ← isTrue c env (eval c env); pure (ForInStep.yield ok) else pure (ForInStep.yield r)) (fun ok s₃ =>
      if ok = true then wpAny (model C.prog C.w) A (eval elt env) (fun x s₄ =>
       wpAny (model C.prog C.w) A (call (.builtin "list.append") [acc, x]) (fun _ s₅ => ∃ m, m < n ∧ I m s₅) (notedBy (model C.prog C.w) A env fun e s' => R (.error e) s') s₄) (notedBy (model C.prog C.w) A env fun e s' => R (.error e) s') s₃
      else ∃ m, m < n ∧ I m s₃) (notedBy (model C.prog C.w) A env fun e s' => R (.error e) s') s₂) (notedBy (model C.prog C.w) A env fun e s' => R (.error e) s') s₁') (notedBy (model C.prog C.w) A env fun e s' => R (.error e) s') s₁) (notedBy (model C.prog C.w) A env fun e s' => R (.error e) s') s)
  (n : Nat) (h : I n s) : codeAny (model C.prog C.w) A (.compLoop (.ListComp elt [⟨target, iter, ifs, 0⟩] scope pos) 0 it acc env) R s := by
 refine codeAny_loop rfl I (fun n s hI => ?_) n h
 show wpAny _ A ((compTurn (.ListComp elt [⟨target, iter, ifs, 0⟩] scope pos) 0 it acc env).onRaise (fun x => do noteFrame x env; theTreesLotGoes x)) _ _ s
 refine wpAny_noted ?_
 rw [compTurn_list]
 refine wpAny_bind (wpAny_standAt (wpAny_bind (wpAny_mono (turn n s hI) (fun r s₁ h₁ => ?_) fun _ _ h' => h')))
 cases r with
 | none => exact wpAny_pure h₁
 | some v =>
  refine wpAny_bind (wpAny_mono h₁ (fun _ s₁' h₁' => ?_) fun _ _ h' => h')
  refine wpAny_bind (wpAny_mono h₁' (fun _ s₂ h₂ => wpAny_bind (wpAny_mono h₂ (fun ok s₃ h₃ => ?_) fun _ _ h' => h')) fun _ _ h' => h')
  cases ok with
  | false => exact wpAny_pure ⟨rfl, h₃⟩
  | true => exact wpAny_bind (wpAny_bind (wpAny_mono h₃ (fun x s₄ h₄ => wpAny_bind (wpAny_mono h₄ (fun _ s₅ h₅ => wpAny_pure (wpAny_pure ⟨rfl, h₅⟩)) fun _ _ h' => h')) fun _ _ h' => h'))
structure CompOk (sc cs : Scope) (fv : List String) (g : Tgt) : Prop where
 kind : cs.kind = .function
 nocell : ∀ y ∈ cs.names, y.2 ≠ .cell
 names : ∀ y ∈ cs.names, y.2 = .local → cs.names.lookup y.1 = some .local
 nodup : (cs.names.map (·.1)).Nodup
 frees : ∀ p ∈ cs.names, p.2 = .free → ∃ x ∈ fv, Str.ofString x = p.1
 frs : ∀ x ∈ fv, (Str.ofString x, NameKind.free) ∈ cs.names ∧ (sc.names.lookup (Str.ofString x) = some .cell ∨ sc.names.lookup (Str.ofString x) = some .free)
 tgt : ∀ x ∈ g.names, x ∉ fv
noncomputable def po (env : Env) (x : String) : Prop := ∃ c, env.cells.lookup (Str.ofString x) = some c
theorem eE {α : Type} : ∀ {l : List (Str × α)} {n : Str} {c : α}, (l.map (·.1)).Nodup → (n, c) ∈ l → l.lookup n = some c
 | p :: r, n, c, hn, hm => by
  rw [List.map_cons, List.nodup_cons] at hn
  rcases List.mem_cons.mp hm with e | hm
  ·subst e; simp
  ·have : n ≠ p.1 := fun e => hn.1 (e ▸ List.mem_map_of_mem hm)
   rw [List.lookup_cons, show (n == p.1) = false by simp [this]]
   exact eE hn.2 hm
theorem jX {h : Heap} {a : Addr} {xs : Array Value} (hp : h.PlainList a xs) (o : Obj) (e : h.get? a = some o) : ∀ es ep, o.data ≠ .dict es ep := by
 obtain ⟨n, hn⟩ := hp
 rw [hn] at e; cases e
 intro es ep z; cases z
inductive CompInv (C : Cx) (cenv : Env) (σ₂ : ai) (h : Heap) (I H : Addr) (m : bg) (items : List V) (St : Nat → Heap → Prop) (L : List V → List V → ai → Prop) (n : Nat) (s' : Shared) : Prop
 | mk (i : Nat) (ys : List V) (ws : List Value) (σ' : ai) (rest : List V) (e1 : items.drop i = rest) (e2 : i ≤ items.length) (e3 : n = rest.length + 1) (st : St i s'.heap) (hI : σ' I = Option.none) (hD : σ' h.objs.size = Option.none) (R : RelG C σ' s')
   (F : FrameRel C cenv m σ' s'.heap) (hp : s'.heap.PlainList h.objs.size (List.toArray ws)) (hv : VRels C.aS s'.heap ys ws) (hl : ys.length ≤ 1048576) (S : Step (fun b => b = I ∨ b = h.objs.size ∨ b = H) σ₂ σ' h s'.heap) (q : L rest ys σ') : CompInv C cenv σ₂ h I H m items St L n s'
theorem lD {env : Env} {A : Around} {s₀ s₂ : Shared} {m : bg} {σ₀ σ₂ : ai} {elt iter target : Expr} {ifs : List Expr} {cs : Scope} {pos : Pos} {fv : List String} {g : Tgt} {B : BT} {T : ET} {I : Addr} {items : List V} {inv : ai → Prop} {St : Nat → Heap → Prop}
  {Q : List V → ai → Prop} {RR : Value → Addr → Result → Shared → Prop} {E : Value → Shared → Prop}
  (ok : CompOk sc cs fv g) (hhas : ∀ x ∈ fv, po env x) (ht : HT C (fM sc cs) k true target g) (hB : HTs C (fM sc cs) k ifs B) (hT : HE C (fM sc cs) k elt T)
  (en : EnvOk env sc) (ao : AOk C A k) (R₀ : RelG C σ₀ s₀) (S : Step no σ₀ σ₂ s₀.heap s₂.heap) (R₂ : RelG C σ₂ s₂) (F : FrameRel C env m σ₂ s₂.heap) (hit : It C k I items inv St) (st : St 0 s₂.heap) (hI : s₀.heap.objs.size ≤ I) (hσI : σ₂ I = Option.none)
  (q : dn g inv B T (only fv m) items [] σ₂ Q)
  (hRR : ∀ D C' ys ws mm σ' s', Heap.Ns s'.heap C' mm → s₂.heap.objs.size ≤ C' → s₂.heap.objs.size ≤ D → D ≠ C' → σ' D = Option.none → σ' C' = Option.none → s'.heap.PlainList D (List.toArray ws) → VRels C.aS s'.heap ys ws → RelG C σ' s' →
   ys.length ≤ 1048576 → Step no σ₀ σ' s₀.heap s'.heap → Step (fun b => b = I) σ₂ σ' s₂.heap s'.heap → Q ys σ' → RR (.ref D) C' (.ok .next) s') :
  wpAny (model C.prog C.w) A (newList []) (fun acc s₃ => wpAny (model C.prog C.w) A (newFunctionEnv cs env.globals (jK env.cells cs.names []) [] env.qual Option.none .none (some env)) (fun cenv s₄ =>
   codeAny (model C.prog C.w) A (.compStart (.ListComp elt [⟨target, iter, ifs, 0⟩] cs pos) 0 (.ref I) acc { cenv with scope := relabel cs env }) (RR acc cenv.locals) s₄) E s₃) E s₂ := by
 have hfree : ∀ p ∈ cs.names, p.2 = .free → ∃ c, env.cells.lookup p.1 = some c := fun p hp hq => by
  obtain ⟨x, hx, e⟩ := ok.frees p hp hq
  rw [← e]; exact hhas x hx
 refine wpAny_newObj_type (wpAny_newFunctionEnv ok.nocell (by intro y hy; simp at hy) (fun h₁ hns₁ hsb₁ => ?_) ok.kind)
 dsimp only at hns₁ hsb₁ ⊢
 generalize hH2 : s₂.heap.push { cls := .type "list", dict := Option.none, data := .seq ([] : List Value).toArray } = H2 at hns₁ hsb₁ ⊢
 have hC : H2.objs.size = s₂.heap.objs.size + 1 := by rw [← hH2, Heap.size_push]
 have hDC : s₂.heap.objs.size ≠ H2.objs.size := by rw [hC]; exact Nat.ne_of_lt (Nat.lt_succ_self _)
 have old : ∀ b o, s₂.heap.get? b = some o → h₁.get? b = some o := fun b o e => hsb₁.extBut b o (by rw [hC]; exact Nat.ne_of_lt (Nat.lt_succ_of_lt (Heap.lt_size e))) (Heap.get?_push_of_some _ (hH2 ▸ Heap.get?_push_of_some _ e))
 have hacc : h₁.PlainList s₂.heap.objs.size (List.toArray []) := ⟨_, hsb₁.extBut _ _ hDC (Heap.get?_push_of_some _ (hH2 ▸ Heap.get?_push_size _ rfl))⟩
 have hsz₁ : h₁.objs.size = s₂.heap.objs.size + 2 := by rw [hsb₁.1, Heap.size_push, hC]
 have R₁ : RelG C σ₂ { s₂ with heap := h₁, toks := s₂.toks + ([] : List (Str × Value)).length } := R₂.grow old
 have cl := kE (cells := env.cells) cs.names [] hfree
 have kindF : ∀ x ∈ fv, (fM sc cs).names.lookup (Str.ofString x) = some .cell ∨ (fM sc cs).names.lookup (Str.ofString x) = some .free := fun x hx =>
  rf (eE ok.nodup (ok.frs x hx).1)
 have hLC : (compEnvC cs (jK env.cells cs.names []) H2.objs.size env).locals = H2.objs.size := rfl
 have eS : (compEnvC cs (jK env.cells cs.names []) H2.objs.size env).scope = fM sc cs := by show relabel cs env = _; rw [pK, en.scope]
 have eCl : (compEnvC cs (jK env.cells cs.names []) H2.objs.size env).cells = jK env.cells cs.names [] := rfl
 have enC : EnvOk (compEnvC cs (jK env.cells cs.names []) H2.objs.size env) (fM sc cs) := ⟨eS, ok.kind, en.globals, en.builtins⟩
 have memF : ∀ n c, (jK env.cells cs.names []).lookup n = some c → (n, NameKind.free) ∈ cs.names ∧ env.cells.lookup n = some c := fun n c e => by
  rw [cl n] at e
  split at e
  ·exact ⟨by assumption, e⟩
  ·simp at e
 have kc : ∀ c v, s₂.heap.IsCell c v → h₁.IsCell c v := fun c v ⟨o, ho, hd⟩ => ⟨o, old c o ho, hd⟩
 have F₁ : FrameRel C (compEnvC cs (jK env.cells cs.names []) H2.objs.size env) (only fv m) σ₂ h₁ := by
  refine ⟨⟨_, hns₁, fun x v e kx => ?_⟩, fun x v e => ?_, fun n c e => ?_, R₂.freshNone (aI (by rw [hLC, hC]; exact Nat.le_succ _)), R₂.baseNone (aI (by rw [hLC, hC]; exact Nat.le_succ _)), fun n c e => ?_, ?_, fun n e => ?_⟩
  ·unfold only at e
   split at e
   ·rename_i hx
    rcases kindF x hx with z | z <;> (rw [enC.of z] at kx; cases kx)
   ·cases e
  ·unfold only at e
   split at e
   ·rename_i hx
    rcases F.cel x v e with z | ⟨z, c, w, h1, h2, h3⟩
    ·exfalso
     rcases (ok.frs x hx).2 with y | y <;> (rw [en.of y] at z; cases z)
    ·refine .inr ⟨?_, c, w, ?_, kc _ _ h2, h3.keep fun b o e _ => old b o e⟩
     ·exact (kindF x hx).imp (fun z => enC.of z) fun z => enC.of z
     ·rw [eCl, cl, if_pos (ok.frs x hx).1]; exact h1
   ·cases e
  ·obtain ⟨v, hv⟩ := F.cells n c (memF n c e).2
   exact ⟨v, kc _ _ hv⟩
  ·exact F.baseC n c (memF n c e).2
  ·exact kF F.dist cs.names [] hfree ok.nodup (fun p hp => by cases hp) List.Pairwise.nil
  ·have go : (n, NameKind.free) ∈ cs.names → ∃ c, (jK env.cells cs.names []).lookup n = some c := fun z => by
    obtain ⟨c, hc⟩ := hfree _ z rfl
    exact ⟨c, by rw [cl, if_pos z]; exact hc⟩
   rcases e with e | e
   ·have e' : (fM sc cs).names.lookup n = some .cell := by unfold Env.kindOf at e; rw [eS] at e; exact e
    rcases rg e' with z | z
    ·exact go z
    ·exact absurd rfl (ok.nocell _ z)
   ·have e' : (fM sc cs).names.lookup n = some .free := by unfold Env.kindOf at e; rw [eS] at e; exact e
    exact go (l9 e')
 have hI2 : I < s₂.heap.objs.size := by obtain ⟨o, ho, _⟩ := hit.live _ _ st; exact Heap.lt_size ho
 have st₁ : St 0 h₁ := hit.frame _ _ _ st (fun o e => old I o e) (fun b o e _ => old b o e)
 have S₁ : Step (fun b => b = I ∨ b = s₂.heap.objs.size ∨ b = H2.objs.size) σ₂ σ₂ s₂.heap h₁ := .grow old (by rw [hsz₁]; exact Nat.le_add_right _ _)
 have hσD : σ₂ s₂.heap.objs.size = Option.none := R₂.freshNone (bV _)
 have hIb : C.hB.get? I = Option.none := R₀.baseNone (aI hI)
 have hIL : I ≠ H2.objs.size := by rw [hC]; exact Nat.ne_of_lt (Nat.lt_succ_of_lt hI2)
 have wk : ∀ {v m'}, fV g v (only fv m) = some m' → ∀ x u, only fv m x = some u → m' x = some u := fun hb x u e => by
  rw [oJ hb]; exact e
  intro hx
  unfold only at e
  rw [if_neg (ok.tgt x hx)] at e; cases e
 have loop : ∀ s₃ : Shared, s₃ = { s₂ with heap := h₁, toks := s₂.toks + ([] : List (Str × Value)).length } →
   codeAny (model C.prog C.w) A (.compLoop (.ListComp elt [⟨target, iter, ifs, 0⟩] cs pos) 0 (.ref I) (.ref s₂.heap.objs.size) (compEnvC cs (jK env.cells cs.names []) H2.objs.size env)) (RR (.ref s₂.heap.objs.size) H2.objs.size) s₃ := by
  rintro s₃ rfl
  generalize compEnvC cs (jK env.cells cs.names []) H2.objs.size env = cenv at hLC eS eCl enC F₁ ⊢
  refine mQ
   (CompInv C cenv σ₂ s₂.heap I H2.objs.size (only fv m) items St fun rest ys σ' => dn g inv B T (only fv m) rest ys σ' Q) ?_ _
   ⟨0, [], [], σ₂, items, by simp, by simp, rfl, st₁, hσI, hσD, R₁, F₁, hacc, .nil, by simp, S₁, q⟩
  rintro n s' ⟨i, ys, ws, σ', rest, e1, e2, rfl, st', hσ', hσD', R', F', hp', hv', hl', S', q'⟩
  have nT : ∀ o, s'.heap.get? s₂.heap.objs.size = some o → ¬ i7 o ∧ ∀ v, o.data ≠ .cell v := fun o ho => by
   obtain ⟨n, hn⟩ := hp'; rw [hn] at ho; cases ho; exact ⟨by simp [i7], by simp⟩
  have drew : ∀ {h' : Heap}, Heap.ExtBut I s'.heap h' → s'.heap.objs.size ≤ h'.objs.size → Step (fun b => b = I ∨ b = s₂.heap.objs.size ∨ b = H2.objs.size) σ' σ' s'.heap h' := fun hx hsz =>
   .of (fun b o e _ q => hx b o (fun z => q (.inl z)) e) hsz fun _ a b => absurd a b
  have ktI : ∀ {h' : Heap}, Heap.ExtBut I s'.heap h' → a6 s'.heap h' := fun hx b o e ht => hx b o (by
   rintro rfl; obtain ⟨oI, hoI, hT, _⟩ := hit.live _ _ st'; rw [hoI] at e; cases e; exact hT ht) e
  cases rest with
  | nil =>
   have hil : i = items.length := kw e1 e2
   subst hil
   refine bv (hit.done A σ' s' _ _ ao R' q'.1 st' fun h' tk hx hsz => ?_)
   have R₃ := dP (tk := tk) R' hx hσ' hIb (hit.live _ _ st')
   have F₃ := de F' hx (hit.live _ _ st') (by rw [hLC]; exact hIL)
   have S₃ := S'.trans (drew hx hsz)
   obtain ⟨mm, hmm, _⟩ := F₃.ns
   rw [hLC] at hmm
   have sep := F₃.sepL
   rw [hLC] at sep
   refine hRR _ _ ys ws mm σ' _ hmm (by rw [hC]; exact Nat.le_succ _) (Nat.le_refl _) hDC hσD' sep (hp'.extBut hx (Nat.ne_of_gt hI2)) (hv'.keep (ktI hx)) R₃ hl' (((S.mono fun _ _ _ z => z.elim).trans S₃).mono fun b o e z => ?_) (S₃.mono fun b o e z => ?_) q'.2
   ·have := Heap.lt_size e
    have hh := S.size
    rcases z with z | z | z
    ·exact absurd this (by rw [z]; exact Nat.not_lt.mpr hI)
    ·exact absurd this (by rw [z]; exact Nat.not_lt.mpr hh)
    ·exact absurd this (by rw [z, hC]; exact Nat.not_lt.mpr (Nat.le_succ_of_le hh))
   ·have := Heap.lt_size e
    rcases z with z | z | z
    ·exact z
    ·exact absurd this (by rw [z]; exact Nat.lt_irrefl _)
    ·exact absurd this (by rw [z, hC]; exact Nat.not_lt.mpr (Nat.le_succ _))
  | cons v r =>
   obtain ⟨hinv, m₁, hm₁, q'⟩ := q'
   have hiv : items[i]? = some v := by
    have : (items.drop i)[0]? = some v := by rw [e1]; rfl
    simpa using this
   have hilt : i < items.length := mP e1
   refine bv (hit.next A σ' s' i v _ _ ao R' hinv st' hiv fun w h₂ tk₂ hv st₂ hx hsz => ?_)
   have R₃ := dP (tk := tk₂) R' hx hσ' hIb (hit.live _ _ st')
   have F₃ := de F' hx (hit.live _ _ st') (by rw [hLC]; exact hIL)
   have S₃ := S'.trans (drew hx hsz)
   have hp₃ := hp'.extBut hx (Nat.ne_of_gt hI2)
   have hv₃ := hv'.keep (ktI hx)
   refine hit.own A _ (i + 1) target w _ _ st₂ ?_
   refine ht.run cenv A _ (only fv m) m₁ σ' v w _ _ enC ao R₃ F₃ hv hm₁ fun s₄ R₄ F₄ S₄ => ?_
   have S₄' : Step (fun b => b = H2.objs.size) σ' σ' h₂ s₄.heap := S₄.mono fun b _ _ z => z.elim (fun z => by rw [hLC] at z; exact z) fun z => by cases z.1
   have kt₄ : a6 h₂ s₄.heap := S₄'.tups (s := { s' with heap := h₂, toks := tk₂ }) R₃ fun b o z e => by
    subst z; rw [← hLC] at e; exact F₃.ownT _ o (.inl rfl) e
   have st₄ : St (i + 1) s₄.heap := hit.frame _ _ _ st₂ (fun o e => S₄'.keep I o e hσ' hIL (hit.flds _ _ st₂ o e)) kt₄
   have hp₄ : s₄.heap.PlainList s₂.heap.objs.size (List.toArray ws) := hp₃.at fun o e => S₄'.keep _ o e hσD' hDC (jX hp₃ o e)
   have hv₄ := hv₃.keep kt₄
   have S₅ : Step (fun b => b = I ∨ b = s₂.heap.objs.size ∨ b = H2.objs.size) σ₂ σ' s₂.heap s₄.heap := S₃.trans (S₄'.mono fun _ _ _ z => .inr (.inr z))
   refine hB.run cenv A s₄ m₁ σ' _ _ _ enC ao R₄ F₄ q' fun b σ₅ s₅ R₅ Sb q₅ => ?_
   have sepI : ∀ {σa σb : ai} {sa : Shared} {hb : Heap}, Step no σa σb sa.heap hb → St (i + 1) sa.heap → σa I = Option.none → σb I = Option.none := fun {σa σb sa hb} Sx stx hx => by
    cases z : σb I with
    | none => rfl
    | some o =>
     obtain ⟨o', ho', _⟩ := hit.live _ _ stx
     exact absurd (Heap.lt_size ho') (Nat.not_lt.mpr (Sx.new I hx (by rw [z]; simp)))
   have sepD : ∀ {σa σb : ai} {sa : Shared} {hb : Heap}, Step no σa σb sa.heap hb → sa.heap.PlainList s₂.heap.objs.size (List.toArray ws) → σa s₂.heap.objs.size = Option.none → σb s₂.heap.objs.size = Option.none := fun {σa σb sa hb} Sx hpx hx => by
    cases z : σb s₂.heap.objs.size with
    | none => rfl
    | some o =>
     obtain ⟨n', hn'⟩ := hpx
     exact absurd (Heap.lt_size hn') (Nat.not_lt.mpr (Sx.new _ hx (by rw [z]; simp)))
   have st₅ : St (i + 1) s₅.heap := hit.frame _ _ _ st₄ (fun o e => Sb.keep I o e hσ' (fun z => z) (hit.flds _ _ st₄ o e)) (Sb.tupsN R₄)
   have hp₅ : s₅.heap.PlainList s₂.heap.objs.size (List.toArray ws) := hp₄.at fun o e => Sb.keep _ o e hσD' (fun z => z) (jX hp₄ o e)
   have hv₅ := hv₄.keep (Sb.tupsN R₄)
   have F₅ := F₄.step R₄ Sb
   have hσ₅ := sepI Sb st₄ hσ'
   have hσD₅ := sepD Sb hp₄ hσD'
   have S₆ := S₅.trans (Sb.mono fun _ _ _ z => z.elim)
   have dr : items.drop (i + 1) = r := by rw [← List.tail_drop, e1]; rfl
   cases b with
   | false =>
    simp only [Bool.false_eq_true, if_false] at q₅ ⊢
    exact ⟨r.length + 1, Nat.lt_succ_self _, i + 1, ys, ws, σ₅, r, dr, hilt, rfl, st₅, hσ₅, hσD₅, R₅, F₅.weaken (wk hm₁), hp₅, hv₅, hl', S₆, q₅⟩
   | true =>
    simp only [if_true] at q₅ ⊢
    refine hT.run cenv A s₅ m₁ σ₅ _ _ _ enC ao R₅ F₅ q₅ fun y wy σ₆ s₆ hy R₆ Sc q₆ => ?_
    obtain ⟨hlen, q₆⟩ := q₆
    have st₆ : St (i + 1) s₆.heap := hit.frame _ _ _ st₅ (fun o e => Sc.keep I o e hσ₅ (fun z => z) (hit.flds _ _ st₅ o e)) (Sc.tupsN R₅)
    have hp₆ : s₆.heap.PlainList s₂.heap.objs.size (List.toArray ws) := hp₅.at fun o e => Sc.keep _ o e hσD₅ (fun z => z) (jX hp₅ o e)
    have hv₆ := hv₅.keep (Sc.tupsN R₅)
    have hσ₆ := sepI Sc st₅ hσ₅
    have hσD₆ := sepD Sc hp₅ hσD₅
    have F₆ := F₅.step R₅ Sc
    refine wpAny_list_append_plain hp₆ (fun h₇ hp₇ hs₇ => ?_) (by rw [List.size_toArray, ← hv₆.length, sizeLine_eq]; exact Nat.le_trans hl' (by decide))
    have nD : ∀ o, s₆.heap.get? s₂.heap.objs.size = some o → ¬ i7 o ∧ ∀ v, o.data ≠ .cell v := fun o ho => by
     obtain ⟨n, hn⟩ := hp₆; rw [hn] at ho; cases ho; exact ⟨by simp [i7], by simp⟩
    obtain ⟨oD, hoD⟩ : ∃ o, s₆.heap.get? s₂.heap.objs.size = some o := let ⟨n, hn⟩ := hp₆; ⟨_, hn⟩
    have kt₇ : a6 s₆.heap h₇ := fun b o e ht => hs₇.extBut b o (by rintro rfl; exact (nD o e).1 ht) e
    have R₇ : RelG C σ₆ { s₆ with heap := h₇ } := dP (tk := s₆.toks) R₆ hs₇.extBut hσD₆ (R₂.baseNone (bV _)) ⟨oD, hoD, nD oD hoD⟩
    have F₇ : FrameRel C cenv m₁ σ₆ h₇ := de F₆ hs₇.extBut ⟨oD, hoD, nD oD hoD⟩ (by rw [hLC]; exact hDC)
    have st₇ : St (i + 1) h₇ := hit.frame _ _ _ st₆ (fun o e => hs₇.extBut I o (Nat.ne_of_lt hI2) e) kt₇
    refine ⟨r.length + 1, Nat.lt_succ_self _, i + 1, ys ++ [y], ws ++ [wy], σ₆, r, dr, hilt, rfl, st₇, hσ₆, hσD₆, R₇, F₇.weaken (wk hm₁), by simpa using hp₇, (hv₆.append (.cons hy .nil)).keep kt₇, by simp; exact Nat.le_of_lt_succ hlen, (S₆.trans (Sc.mono fun _ _ _ z => z.elim)).trans ?_, q₆⟩
    exact .of (fun b o e _ q => hs₇.extBut b o (fun z => q (.inr (.inl z))) e) (Nat.le_of_eq hs₇.1.symm) fun _ a b => absurd a b
 exact codeAny_compStart_list (loop _ rfl) (hit.self A _ 0 _ _ st₁ (loop _ rfl))
theorem mE {env : Env} {m : bg} {σ : ai} {h : Heap} {cs : Scope} {fv : List String} {g : Tgt} (ok : CompOk sc cs fv g) (en : EnvOk env sc) (F : FrameRel C env m σ h) : ∀ x ∈ fv, po env x := fun x hx =>
 F.has _ ((ok.frs x hx).2.imp (fun z => en.of z) fun z => en.of z)
theorem RelG.enter {σ : ai} {s : Shared} {D : Addr} {o : AObj} (R : RelG C σ s) (hD : C.hB.get? D = Option.none) (ho : ObjRel C s.heap D o) : RelG C (aZ σ D o) s :=
 ⟨R.rest, R.base, fun a o' e => by
  by_cases h : a = D
  ·subst h; rw [au] at e; cases e; exact ho
  ·rw [aC h] at e; exact R.view a o' e,
   fun a ha => by
  by_cases h : a = D
  ·subst h; exact hD
  ·rw [aC h] at ha; exact R.apart a ha⟩
theorem Step.enter {own : Addr → Prop} {σ σ' : ai} {h h' : Heap} {D : Addr} {o : AObj} (S : Step own σ σ' h h') (hD : h.objs.size ≤ D) : Step own σ (aZ σ' D o) h h' :=
 ⟨S.keepL, S.size, fun b n z => by
  by_cases hb : b = D
  ·subst hb; exact hD
  ·rw [aC hb] at z; exact S.new b n z⟩
theorem ee {elt iter target : Expr} {ifs : List Expr} {cs : Scope} {pos : Pos} {fv : List String} {g : Tgt} {I : IT} {B : BT} {T : ET} (ok : CompOk sc cs fv g)
  (hi : HI C sc k iter I) (ht : HT C (fM sc cs) k true target g) (hB : HTs C (fM sc cs) k ifs B) (hT : HE C (fM sc cs) k elt T) (hf : ∀ env x, foldedSetIterable iter env x = pure x) :
  HE C sc k (.ListComp elt [⟨target, iter, ifs, 0⟩] cs pos) (dm fv g I B T) := by
 refine ⟨?_⟩; intro env A s m σ Q P E en ao R F q hP
 have hfree : ∀ p ∈ cs.names, p.2 = .free → ∃ c, env.cells.lookup p.1 = some c := fun p hp hq => by
  obtain ⟨x, hx, e⟩ := ok.frees p hp hq
  rw [← e]; exact mE ok en F x hx
 rw [eval_ListComp]
 refine wpAny_comprehension_free (use := Option.none) rfl (hf env) (kD hfree) ok.kind ok.names (hi.run env A s m σ _ _ E en ao R F q fun items inv I St σ₂ s₂ hit st hI hσI R₂ S₂ q₂ => ?_)
 refine lD (RR := fun acc C' => compPost (model C.prog C.w) A E Option.none P acc C') ok (mE ok en F) ht hB hT en ao R S₂ R₂ (F.step R S₂) hit st hI hσI q₂ ?_
 intro D C' ys ws mm σ' s' hmm hC' hD hDC hσD hσC hp hv R' hly S' SI q'
 refine ⟨mm, hmm, fun h'' hs'' => ?_⟩
 have nT : ∀ o, s'.heap.get? C' = some o → ¬ i7 o ∧ ∀ v, o.data ≠ .cell v := fun o ho => by
  obtain ⟨o', es, ep, ho', hd', _⟩ := hmm; rw [ho'] at ho; cases ho; exact ⟨by simp [i7, hd'], by simp [hd']⟩
 obtain ⟨oC, hoC⟩ : ∃ o, s'.heap.get? C' = some o := let ⟨o', _, _, ho', _⟩ := hmm; ⟨o', ho'⟩
 have hC0 : s.heap.objs.size ≤ C' := Nat.le_trans S₂.size hC'
 have hD0 : s.heap.objs.size ≤ D := Nat.le_trans S₂.size hD
 have kt : a6 s'.heap h'' := fun b o e ht => hs''.extBut b o (by rintro rfl; exact (nT o e).1 ht) e
 have R₃ : RelG C σ' { s' with heap := h'' } := dP (tk := s'.toks) R' hs''.extBut hσC (R.baseNone (aI hC0)) ⟨oC, hoC, nT oC hoC⟩
 have R₄ := R₃.enter (D := D) (o := .list ys) (R.baseNone (aI hD0)) ⟨by exact Nat.le_trans hly (by decide), ws, hp.extBut hs''.extBut hDC, hv.keep kt⟩
 have S₃ : Step (fun b => b = C') σ' σ' s'.heap h'' := .of (fun b o e _ q => hs''.extBut b o q e) (Nat.le_of_eq hs''.1.symm) fun _ a b => absurd a b
 have S₄ : Step no σ σ' s.heap h'' := ((S'.mono fun _ _ _ z => z.elim).trans S₃).mono fun b o e z => absurd (Heap.lt_size e) (by rw [z]; exact Nat.not_lt.mpr hC0)
 exact hP _ _ _ _ (.ref D) R₄ (S₄.enter hD0) (q' D hσD)
theorem cG {elt iter target : Expr} {ifs : List Expr} {cs : Scope} {pos p spos : Pos} {x : String} {fv : List String} {g : Tgt} {I : IT} {B : BT} {T : ET} (ok : CompOk sc cs fv g)
  (hi : HI C sc k iter I) (ht : HT C (fM sc cs) k true target g) (hB : HTs C (fM sc cs) k ifs B) (hT : HE C (fM sc cs) k elt T) (hf : ∀ env x, foldedSetIterable iter env x = pure x)
  (hx : sc.names.lookup (Str.ofString x) = some .local) (hsw : ∀ env, EnvOk env sc → swapsWith (.ListComp elt [⟨target, iter, ifs, 0⟩] cs pos) (some (.Name (Str.ofString x) p)) spos.line env = pure true) :
  HS1 C sc k (.Assign [.Name (Str.ofString x) p] (.ListComp elt [⟨target, iter, ifs, 0⟩] cs pos) spos) (bi x (dm fv g I B T)) := by
 refine ⟨?_⟩; intro env A s m σ Q P E en ao R F q hP
 have hfree : ∀ p ∈ cs.names, p.2 = .free → ∃ c, env.cells.lookup p.1 = some c := fun p hp hq => by
  obtain ⟨x, hx, e⟩ := ok.frees p hp hq
  rw [← e]; exact mE ok en F x hx
 rw [exec_Assign_Name_used _ _ _ _ (hsw env en)]
 refine wpAny_bind (wpAny_standAt (wpAny_bind ?_))
 show wpAny _ A (do let _ ← comprehension (.ListComp elt [⟨target, iter, ifs, 0⟩] cs pos) cs env _ (newList []) false (eval iter env) (some (assign (.Name (Str.ofString x) p) env))) _ _ s
 refine wpAny_bind (wpAny_mono (wpAny_comprehension_free (use := some (assign (.Name (Str.ofString x) p) env)) (Q := fun _ s' => P .next s') rfl (hf env) (kD hfree) ok.kind ok.names (hi.run env A s m σ _ _ E en ao R F q fun items inv I St σ₂ s₂ hit st hI hσI R₂ S₂ q₂ => ?_))
  (fun _ s' hq => wpAny_pure (wpAny_pure hq)) fun _ _ e => e)
 refine lD (RR := fun acc C' => compPost (model C.prog C.w) A E (some (assign (.Name (Str.ofString x) p) env)) (fun _ s' => P .next s') acc C') ok (mE ok en F) ht hB hT en ao R S₂ R₂ (F.step R S₂) hit st hI hσI q₂ ?_
 intro D C' ys ws mm σ' s' hmm hC' hD hDC hσD hσC hp hv R' hly S' SI q'
 have hC0 : s.heap.objs.size ≤ C' := Nat.le_trans S₂.size hC'
 have hD0 : s.heap.objs.size ≤ D := Nat.le_trans S₂.size hD
 have R₃ := R'.enter (D := D) (o := .list ys) (R.baseNone (aI hD0)) ⟨by exact Nat.le_trans hly (by decide), ws, hp, hv⟩
 have S₃ := S'.enter (o := .list ys) hD0
 have F₃ := F.step R S₃
 have hCL : C' ≠ env.locals := fun e => by
  obtain ⟨mL, hmL, _⟩ := F.ns
  exact absurd hmL.lt (by rw [← e]; exact Nat.not_lt.mpr hC0)
 refine wpAny_assign_Name (d4 en R₃ F₃ hx (.ref D) fun s₄ R₄ F₄ S₄ => ?_)
 have hσ₃C : aZ σ' D (.list ys) C' = Option.none := by rw [aC (Ne.symm hDC)]; exact hσC
 have hmm4 : s₄.heap.Ns C' mm := Like.ns hmm fun o e => S₄.keepL C' o e hσ₃C hCL
 refine ⟨mm, hmm4, fun h'' hs'' => ?_⟩
 have nT : ∀ o, s₄.heap.get? C' = some o → ¬ i7 o ∧ ∀ v, o.data ≠ .cell v := fun o ho => by
  obtain ⟨o', es, ep, ho', hd', _⟩ := hmm4; rw [ho'] at ho; cases ho; exact ⟨by simp [i7, hd'], by simp [hd']⟩
 obtain ⟨oC, hoC⟩ : ∃ o, s₄.heap.get? C' = some o := let ⟨o', _, _, ho', _⟩ := hmm4; ⟨o', ho'⟩
 have R₅ := dP (tk := s₄.toks) R₄ hs''.extBut hσ₃C (R.baseNone (aI hC0)) ⟨oC, hoC, nT oC hoC⟩
 have F₅ := de F₄ hs''.extBut ⟨oC, hoC, nT oC hoC⟩ hCL
 have S₅ : Step (fun b => b = env.locals ∨ b = C') (aZ σ' D (.list ys)) (aZ σ' D (.list ys)) s'.heap h'' := (S₄.mono fun _ _ _ z => .inl z).trans (.of (fun b o e _ q => hs''.extBut b o (fun z => q (.inr z)) e) (Nat.le_of_eq hs''.1.symm) fun _ a b => absurd a b)
 have S₆ : Step (qe env) σ (aZ σ' D (.list ys)) s.heap h'' := ((S₃.mono fun _ _ _ z => z.elim).trans S₅).mono fun b o e z => z.elim .inl fun z => absurd (Heap.lt_size e) (by rw [z]; exact Nat.not_lt.mpr hC0)
 exact hP .next .next _ _ _ .next R₅ F₅ S₆ (q' D hσD)
end
end Mine
end
noncomputable section
namespace Mine
open PySem
section
variable {C : Cx} {sc : Scope} {k : Nat}
noncomputable def ff : Expr → Bool
 | .Slice .. => true
 | _ => false
theorem dG {A : Around} {s : Shared} {slice : Expr} {o i : Value} {T id : String} {P E : Value → Shared → Prop} (hsl : ff slice = false) (hT : s.TypeIs o T)
  (hl : typeLookup (.type T) "__getitem__" = pure (some (.builtin id))) (hg : wpAny (model C.prog C.w) A (getItem o i) P E s) :
  wpAny (model C.prog C.w) A (getitemInPython o >>= fun b => subscripted slice b o i) P E s := by
 refine wpAny_bind ?_
 rw [getitemInPython_of_ne hT.not_modules]
 refine wpAny_bind (wpAny_specialOf hT hl ?_)
 refine wpAny_pure ?_
 have : subscripted slice false o i = operate [o, i] (getItem o i) := by
  unfold subscripted
  cases slice <;> first | rfl | cases hsl
 rw [this]
 exact wpAny_operating hg
noncomputable def nw (i : Int) (n : Nat) : Option Nat := if 0 ≤ i then (if i < n then some i.toNat else Option.none) else (if -(n : Int) ≤ i then some (i + n).toNat else Option.none)
noncomputable def aK (ns : List Int) : O2
 | .str x, .int i, σ, Q => x.length < 16777217 ∧ ∃ j c, nw i x.length = some j ∧ x.cps.toList[j]? = some c ∧ Q (.str ⟨#[c]⟩) σ
 | .script, .int i, σ, Q => ∃ j n, 0 ≤ i ∧ nw i ns.length = some j ∧ ns[j]? = some n ∧ Q (.int n) σ
 | .tup vs, .int i, σ, Q => vs.length < 16777217 ∧ ∃ j v, nw i vs.length = some j ∧ vs[j]? = some v ∧ Q v σ
 | .ref a, .int i, σ, Q => ∃ xs j v, σ a = some (.list xs) ∧ nw i xs.length = some j ∧ xs[j]? = some v ∧ Q v σ
 | _, _, _, _ => False
theorem sD {i : Int} {n : Nat} (h : -(n : Int) ≤ i) : 0 ≤ i + n := by have := Int.add_le_add_right h n; rwa [Int.add_left_neg] at this
theorem sE {i : Int} {n : Nat} (h : i < 0) : i + n < n := by have := Int.add_lt_add_right h (n : Int); rwa [Int.zero_add] at this
theorem ei {i : Int} {n : Nat} (h0 : 0 ≤ i) (h : i < n) : i.toNat < n := by obtain ⟨m, rfl⟩ := Int.eq_ofNat_of_zero_le h0; exact Int.ofNat_lt.mp h
theorem sH {i : Int} {n : Nat} (h0 : 0 ≤ i) (h : i.toNat < n) : i < n := by obtain ⟨m, rfl⟩ := Int.eq_ofNat_of_zero_le h0; exact Int.ofNat_lt.mpr h
theorem pW {n : Nat} {i N : Int} (h1 : -(n : Int) ≤ i) (h2 : i < n) (hz : n ≤ 16777216) (hN : ((16777216 : Nat) : Int) ≤ N) : -N ≤ i ∧ i < N :=
 ⟨Int.le_trans (Int.neg_le_neg (Int.le_trans (Int.ofNat_le.mpr hz) hN)) h1, Int.lt_of_lt_of_le h2 (Int.le_trans (Int.ofNat_le.mpr hz) hN)⟩
theorem mz {i : Int} {n j : Nat} (h : nw i n = some j) : seqIndex? i n = some j := by
 unfold nw at h
 unfold seqIndex?
 split at h
 ·split at h
  ·cases h
   rename_i h1 h2
   simp [Int.not_lt.mpr h1, h1, h2]
  ·cases h
 ·split at h
  ·cases h
   rename_i h1 h2
   have : i < 0 := by exact Int.not_le.mp h1
   simp only [this, if_true]
   rw [if_pos (by simp only [Bool.and_eq_true, decide_eq_true_eq]; exact ⟨sD h2, sE this⟩)]
  ·cases h
theorem mD {i : Int} {n j : Nat} (h : nw i n = some j) : j < n ∧ -(n : Int) ≤ i ∧ i < n := by
 unfold nw at h
 split at h
 ·split at h
  ·rename_i h1 h2; cases h; exact ⟨ei h1 h2, Int.le_trans (Int.neg_nonpos_of_nonneg (Int.natCast_nonneg n)) h1, h2⟩
  ·cases h
 ·split at h
  ·rename_i h1 h2; cases h; exact ⟨ei (sD h2) (sE (Int.not_le.mp h1)), h2, Int.lt_of_lt_of_le (Int.not_le.mp h1) (Int.natCast_nonneg n)⟩
  ·cases h
theorem oi {A : Around} {s : Shared} {a : Addr} {ws : List Value} {i : Int} {t : Tok} {j : Nat} {w : Value} {P E : Value → Shared → Prop} (hl : s.heap.IsList a ws.toArray) (hi : nw i ws.length = some j) (hw : ws[j]? = some w) (hz : ws.length ≤ 16777216) (q : P w s) :
  wpAny (model C.prog C.w) A (getItem (.ref a) (.int i t)) P E s := by
 have hlt := mD hi
 by_cases h0 : 0 ≤ i
 ·have : j = i.toNat := by unfold nw at hi; rw [if_pos h0] at hi; split at hi <;> cases hi; rfl
  subst this
  exact wpAny_getItem_list hl h0 (pW hlt.2.1 hlt.2.2 hz (by decide)).2 (by simpa using hw) q
 ·have : j = (i + ws.length).toNat := by unfold nw at hi; rw [if_neg h0] at hi; split at hi <;> cases hi; rfl
  subst this
  refine wpAny_getItem_list_neg hl (by exact Int.not_le.mp h0) (by simp; exact hlt.2.1) (pW hlt.2.1 hlt.2.2 hz (by decide)).1 (by simpa using hw) q
theorem tZ (O : C.Ok) {slice : Expr} (hsl : ff slice = false) : gQ C k (fun o i => getitemInPython o >>= fun b => subscripted slice b o i) (aK C.ns) := by
 intro A s σ a b wa wb Q P E ao R va vb q hP
 cases a <;> first | exact q.elim | skip
 all_goals (cases b <;> first | exact q.elim | skip)
 ·rename_i x i
  cases va; cases vb
  obtain ⟨hx, j, c, hj, hc, q⟩ := q
  refine dG hsl (typeIs_str _ _ _) F.slot_str_getitem.lookup ?_
  have hlt := mD hj
  have e : Txt.charAt x i = some c := by
   unfold Txt.charAt
   rw [mz hj]
   simpa using hc
  refine SB.getItem ?_ (by rw [e]; rfl) ?_
  ·unfold fitsSsize; simp; exact pW hlt.2.1 hlt.2.2 (Nat.le_of_lt_succ hx) (by decide)
  ·have e2 : Txt.item x i = ⟨#[c]⟩ := by unfold Txt.item; rw [e]; rfl
   rw [e2]
   exact hP _ _ σ _ (.str _ _) (R.tok _) Step.refl q
 ·rename_i aa i
  cases va; cases vb
  obtain ⟨xs, j, v, hx, hj, hv, q⟩ := q
  obtain ⟨hz, ws, h1, h2⟩ := R.view aa _ hx
  obtain ⟨w, hw, hr⟩ := h2.get hv
  exact dG hsl h1.isList.typeIs slot_list_getitem.lookup (oi h1.isList (by rw [← h2.length]; exact hj) hw (by rw [← h2.length]; exact hz) (hP _ _ σ s hr R Step.refl q))
 ·rename_i i
  cases va; cases vb
  obtain ⟨j, n, h0, hj, hv, q⟩ := q
  obtain ⟨ws, h1, h2, h3⟩ := O.script
  obtain ⟨t, ht⟩ := h3 j n hv
  have hl : s.heap.IsList C.aS ws := h1.at fun o e => R.base _ _ e
  have hl' : s.heap.IsList C.aS ws.toList.toArray := by simpa using hl
  exact dG hsl hl.typeIs slot_list_getitem.lookup (oi hl' (by rw [h2]; exact hj) ht (by rw [h2]; exact Nat.le_trans O.few (by decide)) (hP _ _ σ s (.int n t) R Step.refl q))
 ·rename_i vs i
  cases vb
  cases va with
  | @tup _ at' ws ht hvs =>
   obtain ⟨hz, j, v, hj, hv, q⟩ := q
   obtain ⟨w, hw, hr⟩ := hvs.get hv
   have hlt := mD hj
   have htt : PyProof.Rows.IsTup s.heap at' ws.toArray := ht
   refine dG hsl ht.typeIs (PyProof.Rows.slot_tuple_getitem).lookup (PyProof.Rows.getItem_tuple htt (pW hlt.2.1 hlt.2.2 (Nat.le_of_lt_succ hz) (by decide)).1 (pW hlt.2.1 hlt.2.2 (Nat.le_of_lt_succ hz) (by decide)).2 (by rw [List.size_toArray, ← hvs.length]; exact mz hj) (by simpa using hw) (hP _ _ σ s hr R Step.refl q))
noncomputable def lc (n : Nat) (lo hi : Option Int) : Nat × Nat := (lo.elim 0 (clipAt n), hi.elim n (clipAt n) - lo.elim 0 (clipAt n))
noncomputable def bY {α : Type} (l : List α) (lo hi : Option Int) : List α := (l.drop (lc l.length lo hi).1).take (lc l.length lo hi).2
noncomputable def uJ (ns : List Int) (lo hi : Option Int) : O1
 | .str x, σ, Q => x.length ≤ 16777216 ∧ Q (.str ⟨(bY x.cps.toList lo hi).toArray⟩) σ
 | .ref a, σ, Q => ∃ xs, σ a = some (.list xs) ∧ dc (bY xs lo hi) σ Q
 | .script, σ, Q => dc ((bY ns lo hi).map .int) σ Q
 | _, _, _ => False
structure HP (C : Cx) (sc : Scope) (k : Nat) (e : Option Expr) (T : bg → ai → (Option Int → ai → Prop) → Prop) : Prop where
 run : ∀ (env : Env) (A : Around) (s : Shared) (m : bg) (σ : ai) (Q : Option Int → ai → Prop) (P : Value → Shared → Prop) (E : Value → Shared → Prop),
  EnvOk env sc → AOk C A k → RelG C σ s → FrameRel C env m σ s.heap → T m σ Q →
  (∀ i p σ' s', i = Option.map Prod.fst p → RelG C σ' s' → Step no σ σ' s.heap s'.heap → Q i σ' → P (partValue p) s') →
  wpAny (model C.prog C.w) A (evalPart e env) P E s
noncomputable def sk : bg → ai → (Option Int → ai → Prop) → Prop := fun _ σ Q => Q Option.none σ
noncomputable def nR (T : ET) : bg → ai → (Option Int → ai → Prop) → Prop := fun m σ Q => T m σ fun v σ' => ∃ i, v = .int i ∧ Q (some i) σ'
theorem uw : HP C sc k Option.none sk := ⟨fun env A s m σ Q P E en ao R F q hP => wpAny_pure (hP Option.none Option.none σ s rfl R Step.refl q)⟩
theorem nq {e : Expr} {T : ET} (he : HE C sc k e T) : HP C sc k (some e) (nR T) := ⟨fun env A s m σ Q P E en ao R F q hP =>
 he.run env A s m σ _ _ E en ao R F q fun v w σ' s' hv R' S' q' => by
  obtain ⟨i, rfl, q'⟩ := q'
  cases hv with
  | int i t => exact hP (Option.some i) (Option.some (i, t)) σ' s' rfl R' S' q'⟩
theorem qI {α : Type} (l : List α) (lo hi : Option Int) : (bY l lo hi).length ≤ l.length := by
 unfold bY; rw [List.length_take, List.length_drop]; exact Nat.le_trans (Nat.min_le_right _ _) (Nat.sub_le _ _)
theorem uj (n : Nat) (i : Int) : clipAt n i ≤ n := Int.ofNat_le.mp (by rw [clipAt_cast]; exact Int.max_le.mpr ⟨Int.natCast_nonneg _, Int.min_le_right _ _⟩)
theorem ui {α : Type} {l : List α} {lo hi : Option Int} (h : (lc l.length lo hi).2 = l.length) : bY l lo hi = l :=
 ((List.take_sublist _ _).trans (List.drop_sublist _ _)).eq_of_length (by
  rw [List.length_take, List.length_drop, h]
  refine Nat.min_eq_left (Nat.le_trans (Nat.le_of_eq h.symm) (Nat.sub_le_sub_right ?_ _))
  cases hi with
  | none => exact Nat.le_refl _
  | some i => exact uj _ i)
theorem VRels.cut {aS : Addr} {h : Heap} {vs : List V} {ws : List Value} (x : VRels aS h vs ws) (a b : Nat) : VRels aS h ((vs.drop a).take b) ((ws.drop a).take b) := by
 have hd : ∀ (a : Nat) {vs : List V} {ws : List Value}, VRels aS h vs ws → VRels aS h (vs.drop a) (ws.drop a) := by
  intro a
  induction a with
  | zero => intro vs ws x; exact x
  | succ a ih => intro vs ws x; cases x with
   | nil => exact .nil
   | cons _ r => exact ih r
 have ht : ∀ (b : Nat) {vs : List V} {ws : List Value}, VRels aS h vs ws → VRels aS h (vs.take b) (ws.take b) := by
  intro b
  induction b with
  | zero => intro vs ws x; exact .nil
  | succ b ih => intro vs ws x; cases x with
   | nil => exact .nil
   | cons a r => exact .cons a (ih r)
 exact ht b (hd a x)
theorem qD (n : Nat) (lo hi : Option Int) : Builtin.Str.strSliceIndices lo hi 1 n = sliceRange ((lo.elim 0 (clipAt n) : Nat) : Int) ((hi.elim n (clipAt n) : Nat) : Int) 1 := by
 unfold Builtin.Str.strSliceIndices
 cases lo <;> cases hi <;> simp [clipAt_cast]
theorem uU (x : Str) (lo hi : Option Int) : ((Builtin.Str.strSliceIndices lo hi 1 x.length).filterMap (x.cps[·]?)) = bY x.cps.toList lo hi := by
 rw [qD, sliceRange_one, pick_run]
 unfold bY lc
 simp [Str.length]
noncomputable def ug (ns : List Int) (T : ET) (L U : bg → ai → (Option Int → ai → Prop) → Prop) : ET := fun m σ Q => T m σ fun v σ₁ => L m σ₁ fun lo σ₂ => U m σ₂ fun hi σ₃ => uJ ns lo hi v σ₃ Q
theorem tz (O : C.Ok) {value : Expr} {lower upper : Option Expr} {p pos : Pos} {T : ET} {L U : bg → ai → (Option Int → ai → Prop) → Prop} (hv : HE C sc k value T) (hl : HP C sc k lower L) (hu : HP C sc k upper U) :
  HE C sc k (.Subscript value (.Slice lower upper Option.none p) pos) (ug C.ns T L U) := by
 refine ⟨?_⟩; intro env A s m σ Q P E en ao R F q hP
 rw [eval_Subscript]
 refine wpAny_bind (hv.run env A s m σ _ _ E en ao R F q fun v w σ₁ s₁ va R₁ S₁ q₁ => wpAny_bind (wpAny_holding (wpAny_Slice ?_)))
 have F₁ := F.step R S₁
 refine hl.run env A s₁ m σ₁ _ _ E en ao R₁ F₁ q₁ fun lo pl σ₂ s₂ el R₂ S₂ q₂ => ?_
 refine hu.run env A s₂ m σ₂ _ _ E en ao R₂ (F₁.step R₁ S₂) q₂ fun hi pu σ₃ s₃ eu R₃ S₃ q₃ => ?_
 rw [evalPart_none]
 refine wpAny_pure (wpAny_bind (wpAny_standAt ?_))
 have va₃ := (va.keep (S₂.tupsN R₁)).keep (S₃.tupsN R₂)
 have S₁₃ := (S₁.trans S₂).trans S₃
 have Rs : RelG C σ₃ { s₃ with heap := s₃.heap.push { cls := .type "slice", data := .fields #[partValue pl, partValue pu, .none] } } := R₃.grow (tk := s₃.toks) aX
 have part : ∀ p : Option (Int × Tok), IsPart (partValue p) (p.map (·.1)) := fun p => by
  cases p with
  | none => exact .none
  | some x => exact .int _ _
 have go : ∀ {T id : String} {o : Value} {s : Shared}, s.TypeIs o T → typeLookup (.type T) "__getitem__" = pure (some (.builtin id)) → ∀ {i : Value}, wpAny (model C.prog C.w) A (getItem o i) P E s →
   wpAny (model C.prog C.w) A ((getitemInPython o >>= fun b => subscripted (.Slice lower upper Option.none p) b o i) >>= fun r => letTemporaryGo value o r >>= fun _ => pure r) P E s := fun {T id o s} hT hl {i} hg => by
  refine wpAny_bind (wpAny_bind ?_)
  rw [getitemInPython_of_ne hT.not_modules]
  refine wpAny_bind (wpAny_specialOf hT hl (wpAny_pure ?_))
  show wpAny _ A (operate [i, o] (getItem o i)) _ _ _
  exact wpAny_operating (wpAny_mono hg (fun r s' hr => wpAny_bind (wpAny_letTemporaryGo (wpAny_pure hr))) fun _ _ x => x)
 have fin : ∀ {o i : Value} {s : Shared}, wpAny (model C.prog C.w) A ((getitemInPython o >>= fun b => subscripted (.Slice lower upper Option.none p) b o i) >>= fun r => letTemporaryGo value o r >>= fun _ => pure r) P E s →
   wpAny (model C.prog C.w) A (getitemInPython o >>= fun b => subscripted (.Slice lower upper Option.none p) b o i >>= fun r => letTemporaryGo value o r >>= fun _ => pure r) P E s := fun h => by rwa [bind_assoc] at h
 have pick : ∀ (ws : List Value), slicePick ws.toArray lo hi Option.none = (bY ws lo hi).toArray := fun ws => by
  rw [slicePick_plain]; simp [bY, lc]
 have lists : ∀ (a : Addr) (vs : List V) (ws : List Value), s₃.heap.IsList a ws.toArray → VRels C.aS s₃.heap vs ws → vs.length ≤ 16777216 → dc (bY vs lo hi) σ₃ Q →
   wpAny (model C.prog C.w) A (getitemInPython (.ref a) >>= fun b => subscripted (.Slice lower upper Option.none p) b (.ref a) (.ref s₃.heap.objs.size) >>= fun r => letTemporaryGo value (.ref a) r >>= fun _ => pure r) P E { s₃ with heap := s₃.heap.push { cls := .type "slice", data := .fields #[partValue pl, partValue pu, .none] } } := fun a vs ws hla hvs hz qn => by
  refine fin (go (hla.push _).typeIs slot_list_getitem.lookup (wpAny_getItem_list_slice (lo := lo) (hi := hi) (st := Option.none) (hla.push _) (Heap.IsSliceOf.new ..) (el ▸ part pl) (eu ▸ part pu) .none (by simp) ?_ (by rw [List.size_toArray, ← hvs.length, sizeLine_eq]; exact hz)))
  rw [pick]
  have hn := bV (s₃.heap.push { cls := .type "slice", data := .fields #[partValue pl, partValue pu, .none] })
  refine hP _ _ (aZ σ₃ _ (.list (bY vs lo hi))) _ (.ref _) (Rs.add (tk := s₃.toks) aX hn ⟨Nat.le_trans (qI vs lo hi) hz, bY ws lo hi, ⟨_, Heap.get?_push_size _ rfl⟩, ?_⟩) ((S₁₃.trans .push).trans .addPush) (qn _ (Rs.freshNone hn))
  have := (hvs.cut (lc vs.length lo hi).1 (lc vs.length lo hi).2).keep (h' := (s₃.heap.push { cls := .type "slice", data := .fields #[partValue pl, partValue pu, .none] }).push { cls := .type "list", data := .seq (bY ws lo hi).toArray }) fun _ _ e _ => aX _ _ (aX _ _ e)
  have e2 : bY ws lo hi = (ws.drop (lc vs.length lo hi).1).take (lc vs.length lo hi).2 := by unfold bY; rw [hvs.length]
  rw [← e2] at this
  exact this
 show wpAny _ A (getitemInPython w >>= fun b => subscripted (.Slice lower upper Option.none p) b w (.ref s₃.heap.objs.size) >>= fun r => letTemporaryGo value w r >>= fun _ => pure r) P E _
 cases va₃ with
 | none => exact q₃.elim
 | bool => exact q₃.elim
 | int => exact q₃.elim
 | ty => exact q₃.elim
 | tup => exact q₃.elim
 | script =>
  obtain ⟨ws, h1, h2, h3⟩ := O.script
  have hl : s₃.heap.IsList C.aS ws.toList.toArray := by simpa using (h1.at fun o e => R₃.base _ _ e)
  have hvs : VRels C.aS s₃.heap (C.ns.map .int) ws.toList := by
   have : ∀ (ns : List Int) (l : List Value), l.length = ns.length → (∀ (i : Nat) n, ns[i]? = Option.some n → ∃ t, l[i]? = Option.some (Value.int n t)) → VRels C.aS s₃.heap (ns.map .int) l := by
    intro ns
    induction ns with
    | nil => intro l hl _; cases l with | nil => exact .nil | cons => simp at hl
    | cons n r ih => intro l hl h; cases l with
     | nil => simp at hl
     | cons w r' =>
      obtain ⟨t, ht⟩ := h 0 n rfl
      simp at ht; subst ht
      exact .cons (.int n t) (ih r' (by simpa using hl) fun i n hi => h (i + 1) n (by simpa using hi))
   exact this _ _ h2 h3
  refine lists _ _ _ hl hvs (by have := O.few; simp; exact Nat.le_trans this (by decide)) ?_
  have e : bY (C.ns.map V.int) lo hi = (bY C.ns lo hi).map .int := by unfold bY; simp [List.map_take, List.map_drop]
  rw [e]; exact q₃
 | ref a =>
  obtain ⟨xs, hx, qn⟩ := q₃
  obtain ⟨hz, ws, h1, h2⟩ := R₃.view a _ hx
  exact lists a xs ws h1.isList h2 hz qn
 | str x t =>
  obtain ⟨hx, q₃⟩ := q₃
  refine fin (go (typeIs_str _ x t) _root_.PySem.F.slot_str_getitem.lookup (wpAny_getItem_str_slice (l := pl) (u := pu) (st := Option.none) ⟨_, Heap.get?_push_size _ rfl, rfl, rfl⟩ rfl ?_))
  have e1 : slicePicked x pl pu Option.none = Builtin.Str.strSliceIndices lo hi 1 x.length := by unfold slicePicked; rw [el, eu]; rfl
  have e2 := uU x lo hi
  unfold sliceMade
  rw [e1, e2]
  have res : ∀ t' tk, P (.str ⟨(bY x.cps.toList lo hi).toArray⟩ t') { s₃ with heap := s₃.heap.push { cls := .type "slice", data := .fields #[partValue pl, partValue pu, .none] }, toks := tk } := fun t' tk =>
   hP _ _ σ₃ _ (.str _ _) (R₃.grow aX) (S₁₃.trans .push) q₃
  split
  ·rename_i hc
   have hlen : (Builtin.Str.strSliceIndices lo hi 1 x.length).length = x.length := by simpa using hc
   have : (⟨(bY x.cps.toList lo hi).toArray⟩ : Str) = x := by
    have hh : (bY x.cps.toList lo hi) = x.cps.toList := by
     rw [qD, sliceRange_one] at hlen
     refine ui ?_
     have hxl : x.cps.toList.length = x.length := Array.length_toList
     rw [hxl]
     simpa [lc] using hlen
    rw [hh]
   have r := res t s₃.toks
   rw [this] at r
   exact r
  ·refine ⟨?_, res _ _⟩
   show (bY x.cps.toList lo hi).toArray.size ≤ sizeLine
   rw [List.size_toArray, sizeLine_eq]
   exact Nat.le_trans (qI x.cps.toList lo hi) (by rw [Array.length_toList]; exact hx)
end
end Mine
end
noncomputable section
namespace Mine
open PySem
section
variable {C : Cx} {sc : Scope} {k : Nat}
noncomputable def br (ty : V → ai → Prop) (op : b7) (T : ET) (L : LT) : ET := fun m σ Q => T m σ fun o σ₁ => ty o σ₁ ∧ L m σ₁ fun vs σ₂ => op (o :: vs) σ₂ Q
noncomputable def uu (C : Cx) (T : String) (ty : V → ai → Prop) : Prop := ∀ (o : V) (wo : Value) (σ : ai) (s : Shared), RelG C σ s → VRel C.aS s.heap o wo → ty o σ → s.TypeIs wo T ∧ ∀ a, wo = .ref a → ∃ ob, s.heap.get? a = some ob ∧ ob.dict = Option.none
theorem fz {T id : String} {name : Str} {o : Expr} {apos pos : Pos} {es : List Expr} {ty : V → ai → Prop} {op : b7} {To : ET} {L : LT} (hty : uu C T ty) (pa : PlainAttrs T) (slot : Slot T name id) (hmd : typeOf (.builtin id) = pure (.type "method_descriptor"))
  (hop : nz C k (fun ws => PySem.call (.builtin id) ws) op) (ho : HE C sc k o To) (hl : HL C sc k es L) (hp : aO es = true)
  (hbase : ∀ env, attributeBase o name env (eval o env) = eval o env) (hline : (apos.endLine == pos.line) = true) (hfew : es.length < 30) : HE C sc k (.Call (.Attribute o name apos) es [] pos) (br ty op To L) := by
 refine ⟨?_⟩; intro env A s m σ Q P E en ao R F q hP
 have hall : (backTo pos (starEach es env)).all (fun x => !x.1) = true := by
  have := bp (env := env) (pos := pos) hp
  rw [List.any_eq_false] at this
  rw [List.all_eq_true]
  intro x hx
  have := this x hx
  simp at this
  simp [this]
 refine wpAny_Call_method (hbase env) (by rw [hall]; exact decide_eq_true hfew) hline pa slot hmd ?_
 refine ho.run env A s m σ _ _ E en ao R F q fun v w σ₁ s₁ hv R₁ S₁ q₁ => ?_
 obtain ⟨h1, h2⟩ := hty v w σ₁ s₁ R₁ hv q₁.1
 refine ⟨h1, h2, Calls.callWith_builtin (bp hp) (bE hp (hl.run env A s₁ m σ₁ pos _ _ E en ao R₁ (F.step R S₁) q₁.2 fun vs ws σ₂ s₂ hvs R₂ S₂ q₂ => ?_))⟩
 exact hop A s₂ σ₂ (v :: vs) (w :: ws) Q P E ao R₂ (.cons (hv.keep (S₂.tupsN R₁)) hvs) q₂ fun v' w' σ' s' hv' R' S' q' => hP v' w' σ' s' hv' R' ((S₁.trans S₂).trans S') q'
noncomputable def hZ : V → ai → Prop
 | .str _, _ => True
 | _, _ => False
theorem jQ : uu C "str" hZ := by
 intro o wo σ s R hv h
 cases hv <;> first | exact h.elim | skip
 exact ⟨typeIs_str _ _ _, fun a e => by cases e⟩
noncomputable def bN : V → ai → Prop
 | .ref a, σ => ∃ xs, σ a = some (.list xs)
 | _, _ => False
theorem li : uu C "list" bN := by
 intro o wo σ s R hv h
 cases hv <;> first | exact h.elim | skip
 obtain ⟨xs, hx⟩ := h
 obtain ⟨_, ws, h1, h2⟩ := R.view _ _ hx
 refine ⟨h1.isList.typeIs, fun b e => ?_⟩
 cases e
 obtain ⟨n, hn⟩ := h1
 exact ⟨_, hn, rfl⟩
theorem VRels.inv1 {aS : Addr} {h : Heap} {a : V} {ws : List Value} (x : VRels aS h [a] ws) : ∃ wa, ws = [wa] ∧ VRel aS h a wa := by
 cases x with
 | cons h1 r => cases r; exact ⟨_, rfl, h1⟩
theorem VRels.inv2 {aS : Addr} {h : Heap} {a b : V} {ws : List Value} (x : VRels aS h [a, b] ws) : ∃ wa wb, ws = [wa, wb] ∧ VRel aS h a wa ∧ VRel aS h b wb := by
 cases x with
 | cons h1 r => obtain ⟨wb, rfl, h2⟩ := r.inv1; exact ⟨_, _, rfl, h1, h2⟩
noncomputable def ig : b7 := fun vs σ Q => onSS vs fun x y => Q (.bool (Txt.startswith x y)) σ
theorem rj : nz C k (fun ws => PySem.call (.builtin "str.startswith") ws) ig := by
 intro A s σ vs ws Q P E ao R hv q hP
 replace q := onSS.elim q
 obtain ⟨n0, n1, rfl, q⟩ := q
 ·obtain ⟨wa, wb, rfl, h1, h2⟩ := hv.inv2
  cases h1; cases h2
  exact SC.startswith (hP _ _ σ s (.bool _) R Step.refl q)
theorem qm {aS : Addr} {h : Heap} : ∀ {ys : List Str} {ws : List Value}, VRels aS h (ys.map .str) ws → ∃ l : List (Str × Tok), ws = strValues l ∧ l.map (·.1) = ys
 | [], _, r => ⟨[], r.inv0, rfl⟩
 | y :: ys, _, r => by
  obtain ⟨w, ws, rfl, h1, r2⟩ := r.invC
  obtain ⟨t, rfl⟩ := h1.invStr
  obtain ⟨l, rfl, rfl⟩ := qm r2
  exact ⟨(y, t) :: l, rfl, rfl⟩
theorem nG {aS : Addr} {h : Heap} : ∀ (l : List (Str × Tok)), VRels aS h ((l.map (·.1)).map .str) (strValues l)
 | [] => .nil
 | (x, t) :: l => .cons (.str x t) (nG l)
noncomputable def pD : b7 := fun vs σ Q => onSR vs fun x a => ∃ ys : List Str, σ a = some (.list (ys.map .str)) ∧ (ys.map (·.length)).sum + ys.length * x.length ≤ 16777216 ∧ Q (.str (Str.join x ys)) σ
theorem lx (x : Str) : ∀ (l : List Str) (n : Nat), l.foldl (fun a y => a + y.length + x.length) n = n + (l.map (·.length)).sum + l.length * x.length
 | [], n => by simp
 | y :: r, n => by
  rw [List.foldl_cons, lx x r]
  simp [Nat.add_mul]; exact Nat.le_antisymm (aD fun hg => lN [n, (y.length), (x.length), ((List.map (fun x => x.length) r).sum), (r.length * x.length)] 0x41cc520000019003940400061 rfl hg) (aD fun hg => lN [n, (y.length), (x.length), ((List.map (fun x => x.length) r).sum), (r.length * x.length)] 0x3200728080020e62900000061 rfl hg)
theorem pU (x : Str) : ∀ ys : List Str, Builtin.Str.glued x ys = Str.join x ys := by
 have key : ∀ (r : List Str) (acc : Array Nat), (⟨r.foldl (fun acc p => acc ++ x.cps ++ p.cps) acc⟩ : Str) = match r with | [] => ⟨acc⟩ | _ => (⟨acc⟩ : Str) ++ x ++ Str.join x r := by
  intro r
  induction r with
  | nil => intro acc; rfl
  | cons y r ih =>
   intro acc
   rw [List.foldl_cons, ih]
   cases r with
   | nil => rfl
   | cons z r =>
    show (⟨acc ++ x.cps ++ y.cps⟩ : Str) ++ x ++ Str.join x (z :: r) = (⟨acc⟩ : Str) ++ x ++ (y ++ x ++ Str.join x (z :: r))
    have : ∀ a b : Str, a ++ b = ⟨a.cps ++ b.cps⟩ := fun _ _ => rfl
    simp only [this, Array.append_assoc]
 intro ys
 cases ys with
 | nil => rfl
 | cons y r =>
  unfold Builtin.Str.glued
  simp only [List.drop_one, List.tail_cons, List.headD_cons]
  rw [key]
  cases r with
  | nil => rfl
  | cons z r => rfl
theorem tY : nz C k (fun ws => PySem.call (.builtin "str.join") ws) pD := by
 intro A s σ vs ws Q P E ao R hv q hP
 replace q := onSR.elim q
 obtain ⟨x, a, rfl, q⟩ := q
 ·obtain ⟨wa, wb, rfl, h1, h2⟩ := hv.inv2
  cases h1; cases h2
  obtain ⟨ys, hy, hl, q⟩ := q
  obtain ⟨_, ws, h3, h4⟩ := R.view a _ hy
  obtain ⟨l, rfl, e⟩ := qm h4
  refine SC.join (texts := ys) h3.isList e ?_ fun t' tk => ?_
  ·unfold JoinOk Builtin.Str.tooLong
   rw [← Array.foldl_toList, lx]
   rw [sizeLine_eq]
   simp
   exact hl
  ·have : Txt.join x ys = Str.join x ys := pU x ys
   rw [this]
   exact hP _ _ σ _ (.str _ _) (R.tok _) Step.refl q
noncomputable def ii : b7 := fun vs σ Q => onSS vs fun x y => (y.length = 1 ∧ x.length ≤ 1048576) ∧ dc ((Txt.split x y).map .str) σ Q
theorem iQ {A : Around} {s : Shared} {σ : ai} {xs : List V} {ws : List Value} {tk : Nat} {Q : V → ai → Prop} {P : Value → Shared → Prop} (R : RelG C σ s) (hv : VRels C.aS s.heap xs ws) (hz : xs.length ≤ 16777216) (q : dc xs σ Q) (hP : uC C σ s Q P) :
  P (.ref s.heap.objs.size) { s with heap := s.heap.push { cls := .type "list", data := .seq ws.toArray }, toks := tk } := by
 have hn := bV s.heap
 exact hP _ _ (aZ σ s.heap.objs.size (.list xs)) _ (.ref _) (R.add (tk := tk) aX hn ⟨hz, ws, ⟨_, Heap.get?_push_size _ rfl⟩, hv.keep fun _ _ e _ => aX _ _ e⟩) .addPush (q _ (R.freshNone hn))
theorem sv : nz C k (fun ws => PySem.call (.builtin "str.split") ws) ii := by
 intro A s σ vs ws Q P E ao R hv q hP
 replace q := onSS.elim q
 obtain ⟨x, y, rfl, q⟩ := q
 ·obtain ⟨wa, wb, rfl, h1, h2⟩ := hv.inv2
  cases h1 with | str _ t => cases h2 with | str _ u =>
  obtain ⟨⟨hy, hx⟩, q⟩ := q
  have hy0 : (y.length == 0) = false := by simp [hy]
  have hsz : (Builtin.Str.partsBetween x (Builtin.Str.occurrences x y 0 x.length (x.length + 1)) y.length).length ≤ 1048578 := by
   rw [length_partsBetween]
   have := StrLaws.occ_length_le x y 0 x.length (x.length + 1)
   exact Nat.succ_le_succ (Nat.le_trans this (Nat.succ_le_succ hx))
  have single : Txt.split x y = [x] → P (.ref s.heap.objs.size) { s with heap := s.heap.push { cls := .type "list", data := .seq [Value.str x t].toArray } } := fun e => by
   rw [e] at q
   exact iQ (A := A) (tk := s.toks) R (.cons (.str x t) .nil) (by simp) q hP
  cases h1 : (decide (x.length < y.length) || decide (Builtin.Str.strKind x < Builtin.Str.strKind y))
  ·cases hf : (Builtin.Str.occurrences x y 0 x.length (x.length + 1)).isEmpty
   ·refine call_meets _root_.PySem.F.slot_str_split (typeIs_str _ _ _) _root_.PySem.F.entry_str_split (_root_.PySem.F.args_str_split_2 _ _) (meets_str_split_sep x y t u h1 hy0 hf (by rw [sizeLine_eq]; exact Nat.le_trans hx (by decide)) (by rw [sizeLine_eq]; exact Nat.le_trans hsz (by decide))) ?_
    have e : Txt.split x y = Builtin.Str.partsBetween x (Builtin.Str.occurrences x y 0 x.length (x.length + 1)) y.length := by unfold Txt.split; rw [h1, hf]; rfl
    rw [e] at q
    show wants P E _ { s with toks := _, heap := s.heap.push { cls := .type "list", data := .seq (strsFrom s.toks (Builtin.Str.partsBetween x (Builtin.Str.occurrences x y 0 x.length (x.length + 1)) y.length)).toArray } }
    rw [strsFrom_eq]
    refine iQ (A := A) R ?_ (by rw [List.length_map]; exact Nat.le_trans hsz (by decide)) q hP
    have := nG (aS := C.aS) (h := s.heap) (numbered s.toks (Builtin.Str.partsBetween x (Builtin.Str.occurrences x y 0 x.length (x.length + 1)) y.length))
    rw [numbered_texts] at this
    exact this
   ·exact call_meets _root_.PySem.F.slot_str_split (typeIs_str _ _ _) _root_.PySem.F.entry_str_split (_root_.PySem.F.args_str_split_2 _ _) (meets_str_split_not_found x y t u h1 hy0 hf) (single (by unfold Txt.split; rw [h1, hf]; rfl))
  ·exact call_meets _root_.PySem.F.slot_str_split (typeIs_str _ _ _) _root_.PySem.F.entry_str_split (_root_.PySem.F.args_str_split_2 _ _) (meets_str_split_cannot_occur x y t u h1) (single (by unfold Txt.split; rw [h1]; rfl))
noncomputable def pP (σ : ai) (Q : V → ai → Prop) : Option AObj → Prop
 | some (.list xs) => Q (.int xs.length) σ
 | some (.dict kvs _) => Q (.int kvs.length) σ
 | some (.idict kvs _) => Q (.int kvs.length) σ
 | _ => False
noncomputable def bh (ns : List Int) : b7
 | [.str x], σ, Q => x.length ≤ 16777216 ∧ Q (.int x.length) σ
 | [.ref a], σ, Q => pP σ Q (σ a)
 | [.tup vs], σ, Q => vs.length ≤ 16777216 ∧ Q (.int vs.length) σ
 | [.script], σ, Q => Q (.int ns.length) σ
 | _, _, _ => False
theorem lE {n : Nat} (h : n ≤ 16777216) : (n : Int) < 2 ^ 63 := Int.lt_of_le_of_lt (Int.ofNat_le.mpr h) (by decide)
theorem vu (O : C.Ok) : nz C k (fun ws => PySem.call (.builtin "len") ws) (bh C.ns) := by
 intro A s σ vs ws Q P E ao R hv q hP
 cases vs with
 | nil => exact (show False from q).elim
 | cons v r =>
 cases r with
 | cons u r => cases v <;> exact (show False from q).elim
 | nil =>
 obtain ⟨wa, rfl, h1⟩ := hv.inv1
 have fin : ∀ (n : Int) (t tk : Tok), Q (.int n) σ → P (.int n t) { s with toks := tk } := fun n t tk q => hP _ _ σ _ (.int _ _) (R.tok _) Step.refl q
 clear hP
 cases h1 with
 | str x t => exact _root_.PySem.P.len_str (Int.not_le.mpr (lE q.1)) (fin _ _ _ q.2)
 | ref a =>
  have q : pP σ Q (σ a) := q
  cases hx : σ a with
  | none => rw [hx] at q; exact q.elim
  | some o =>
   rw [hx] at q
   cases o with
   | list xs =>
    obtain ⟨hz, ws, h1, h2⟩ := R.view _ _ hx
    have e := h2.length
    refine Calls.call_len_list h1.isList (by rw [List.size_toArray, ← e]; exact lE hz) ?_
    rw [List.size_toArray, ← e]
    exact fin _ _ _ q
   | dict kvs ep =>
    obtain ⟨hz, ws, h1, h2⟩ := R.view _ _ hx
    have e := h2.length
    refine call_len_dict (O.noMods (R.apart _ (by rw [hx]; simp))) h1.dictOf (by rw [← e]; exact lE hz) ?_
    rw [← e]
    exact fin _ _ _ q
   | idict kvs ep =>
    obtain ⟨hz, ws, h1, h2⟩ := R.view _ _ hx
    have e := h2.length
    refine call_len_dict (O.noMods (R.apart _ (by rw [hx]; simp))) h1.dictOf (by rw [← e]; exact lE hz) ?_
    rw [← e]
    exact fin _ _ _ q
   | _ => exact (show False from q).elim
 | @tup vs a ws ht hvs =>
  have e := hvs.length
  refine PyProof.Rows.len_tuple (show PyProof.Rows.IsTup s.heap a ws.toArray from ht) (by rw [List.size_toArray, ← e]; exact lE q.1) ?_
  rw [List.size_toArray, ← e]
  exact fin _ _ _ q.2
 | script =>
  obtain ⟨ws, h1, h2, h3⟩ := O.script
  have hl : s.heap.IsList C.aS ws := h1.at fun o e => R.base _ _ e
  have e : (ws.size : Int) = C.ns.length := by rw [← h2]; simp
  refine Calls.call_len_list hl (by rw [e]; exact lE (Nat.le_trans O.few (by decide))) ?_
  rw [e]
  exact fin _ _ _ q
 | _ => exact (show False from q).elim
noncomputable def uK : V → ai → String → Option Bool
 | .bool _, _, T => if T = "bool" then some true else if T = "int" then some true else if T ∈ ["str", "list", "dict", "tuple"] then some false else Option.none
 | .int _, _, T => if T = "int" then some true else if T ∈ ["bool", "str", "list", "dict", "tuple"] then some false else Option.none
 | .str _, _, T => if T = "str" then some true else if T ∈ ["bool", "int", "list", "dict", "tuple"] then some false else Option.none
 | .tup _, _, T => if T = "tuple" then some true else if T ∈ ["bool", "int", "list", "dict", "str"] then some false else Option.none
 | .ref a, σ, T => match σ a with
  | some (.list _) => if T = "list" then some true else if T ∈ ["bool", "int", "tuple", "dict", "str"] then some false else Option.none
  | some (.dict _ _) => if T = "dict" then some true else if T ∈ ["bool", "int", "tuple", "list", "str"] then some false else Option.none
  | _ => Option.none
 | _, _, _ => Option.none
noncomputable def cn : b7 := fun vs σ Q => onVT vs fun v T => ∃ r, uK v σ T = some r ∧ Q (.bool r) σ
theorem tu {M : String → Prop} {a b c d e : String} (h1 : M a) (h2 : M b) (h3 : M c) (h4 : M d) (h5 : M e) : ∀ T ∈ [a, b, c, d, e], M T := by
 intro T h
 simp only [List.mem_cons, List.not_mem_nil, or_false] at h
 rcases h with rfl | rfl | rfl | rfl | rfl <;> assumption
theorem yJ {M : String → Prop} {a b c d : String} (h1 : M a) (h2 : M b) (h3 : M c) (h4 : M d) : ∀ T ∈ [a, b, c, d], M T := by
 intro T h
 simp only [List.mem_cons, List.not_mem_nil, or_false] at h
 rcases h with rfl | rfl | rfl | rfl <;> assumption
theorem eF {M : String → Prop} {r : Bool} {T t : String} {l : List String} (hr : (if T = t then some true else if T ∈ l then some false else Option.none) = some r) (h1 : r = true → M t) (h2 : r = false → ∀ T ∈ l, M T) : M T := by
 split at hr
 ·rename_i e; cases hr; rw [e]; exact h1 rfl
 ·split at hr
  ·rename_i e; cases hr; exact h2 rfl T e
  ·cases hr
theorem ry {M : String → Prop} {r : Bool} {T t u : String} {l : List String} (hr : (if T = t then some true else if T = u then some true else if T ∈ l then some false else Option.none) = some r) (h1 : r = true → M t) (h3 : r = true → M u) (h2 : r = false → ∀ T ∈ l, M T) : M T := by
 split at hr
 ·rename_i e; cases hr; rw [e]; exact h1 rfl
 ·exact eF hr h3 h2
theorem vx : nz C k (fun ws => PySem.call (.builtin "isinstance") ws) cn := by
 intro A s σ vs ws Q P E ao R hv q hP
 replace q := onVT.elim q
 obtain ⟨v, T, rfl, q⟩ := q
 ·obtain ⟨wa, wb, rfl, h1, h2⟩ := hv.inv2
  cases h2
  obtain ⟨r, hr, q⟩ := q
  have p0 : r = true → P (.bool true) s := fun e => hP _ _ σ _ (.bool true) R Step.refl (e ▸ q)
  have p1 : r = false → P (.bool false) { s with toks := s.toks + 1 } := fun e => hP _ _ σ _ (.bool false) (R.tok _) Step.refl (e ▸ q)
  unfold uK at hr
  split at hr
  ·cases h1
   refine ry (M := fun T => wpAny (model C.prog C.w) A (PySem.call (.builtin "isinstance") [_, .type T]) P E s) hr ?_ ?_ ?_
   ·intro e; exact IsiPair.bool_bool (p0 e)
   ·intro e; exact IsiPair.bool_int (p0 e)
   ·intro e; refine yJ ?_ ?_ ?_ ?_
    ·exact IsiPair.bool_str (p1 e)
    ·exact IsiPair.bool_list (p1 e)
    ·exact IsiPair.bool_dict (p1 e)
    ·exact IsiPair.bool_tuple (p1 e)
  ·cases h1
   refine eF (M := fun T => wpAny (model C.prog C.w) A (PySem.call (.builtin "isinstance") [_, .type T]) P E s) hr ?_ ?_
   ·intro e; exact IsiPair.int_int (p0 e)
   ·intro e; refine tu ?_ ?_ ?_ ?_ ?_
    ·exact IsiPair.int_bool (p1 e)
    ·exact IsiPair.int_str (p1 e)
    ·exact IsiPair.int_list (p1 e)
    ·exact IsiPair.int_dict (p1 e)
    ·exact IsiPair.int_tuple (p1 e)
  ·cases h1
   refine eF (M := fun T => wpAny (model C.prog C.w) A (PySem.call (.builtin "isinstance") [_, .type T]) P E s) hr ?_ ?_
   ·intro e; exact IsiPair.str_str (p0 e)
   ·intro e; refine tu ?_ ?_ ?_ ?_ ?_
    ·exact IsiPair.str_bool (p1 e)
    ·exact IsiPair.str_int (p1 e)
    ·exact IsiPair.str_list (p1 e)
    ·exact IsiPair.str_dict (p1 e)
    ·exact IsiPair.str_tuple (p1 e)
  ·cases h1 with
   | @tup _ a ws ht hvs =>
   obtain ⟨o, ho, hc, _⟩ := ht
   refine eF (M := fun T => wpAny (model C.prog C.w) A (PySem.call (.builtin "isinstance") [_, .type T]) P E s) hr ?_ ?_
   ·intro e; exact IsiPair.tuple_tuple ho hc (p0 e)
   ·intro e; refine tu ?_ ?_ ?_ ?_ ?_
    ·exact IsiPair.tuple_bool ho hc (p1 e)
    ·exact IsiPair.tuple_int ho hc (p1 e)
    ·exact IsiPair.tuple_list ho hc (p1 e)
    ·exact IsiPair.tuple_dict ho hc (p1 e)
    ·exact IsiPair.tuple_str ho hc (p1 e)
  ·cases h1
   split at hr
   ·rename_i hx
    obtain ⟨hz, ws, ⟨n, hn⟩, h2⟩ := R.view _ _ hx
    refine eF (M := fun T => wpAny (model C.prog C.w) A (PySem.call (.builtin "isinstance") [_, .type T]) P E s) hr ?_ ?_
    ·intro e; exact IsiPair.list_list hn rfl (p0 e)
    ·intro e; refine tu ?_ ?_ ?_ ?_ ?_
     ·exact IsiPair.list_bool hn rfl (p1 e)
     ·exact IsiPair.list_int hn rfl (p1 e)
     ·exact IsiPair.list_tuple hn rfl (p1 e)
     ·exact IsiPair.list_dict hn rfl (p1 e)
     ·exact IsiPair.list_str hn rfl (p1 e)
   ·rename_i hx
    obtain ⟨hz, ws, ⟨o, es, hn, hc, _⟩, h2⟩ := R.view _ _ hx
    refine eF (M := fun T => wpAny (model C.prog C.w) A (PySem.call (.builtin "isinstance") [_, .type T]) P E s) hr ?_ ?_
    ·intro e; exact IsiPair.dict_dict hn hc.1 (p0 e)
    ·intro e; refine tu ?_ ?_ ?_ ?_ ?_
     ·exact IsiPair.dict_bool hn hc.1 (p1 e)
     ·exact IsiPair.dict_int hn hc.1 (p1 e)
     ·exact IsiPair.dict_tuple hn hc.1 (p1 e)
     ·exact IsiPair.dict_list hn hc.1 (p1 e)
     ·exact IsiPair.dict_str hn hc.1 (p1 e)
   ·cases hr
  ·cases hr
noncomputable def nJ : b7 := fun vs σ Q => onII vs fun a b => Q (.int (min a b)) σ
noncomputable def nK : b7 := fun vs σ Q => onII vs fun a b => Q (.int (max a b)) σ
theorem vq (hz : C.held = Option.none) : nz C k (fun ws => PySem.call (.builtin "min") ws) nJ := by
 intro A s σ vs ws Q P E ao R hv q hP
 replace q := onII.elim q
 obtain ⟨a, b, rfl, q⟩ := q
 ·obtain ⟨wa, wb, rfl, h1, h2⟩ := hv.inv2
  cases h1; cases h2
  refine bv (min_two_ints (ao.none hz) fun h' tk hk hz => ?_)
  have R' : RelG C σ { s with heap := h', toks := tk } := R.grow hk
  have S' : Step no σ σ s.heap h' := .grow hk hz
  by_cases c : b < a
  ·rw [if_pos c]; exact hP _ _ σ _ (.int _ _) R' S' (by rwa [Int.min_eq_right (by exact Int.le_of_lt c)] at q)
  ·rw [if_neg c]; exact hP _ _ σ _ (.int _ _) R' S' (by rwa [Int.min_eq_left (by exact Int.not_lt.mp c)] at q)
theorem vr (hz : C.held = Option.none) : nz C k (fun ws => PySem.call (.builtin "max") ws) nK := by
 intro A s σ vs ws Q P E ao R hv q hP
 replace q := onII.elim q
 obtain ⟨a, b, rfl, q⟩ := q
 ·obtain ⟨wa, wb, rfl, h1, h2⟩ := hv.inv2
  cases h1; cases h2
  refine bv (max_two_ints (ao.none hz) fun h' tk hk hz => ?_)
  have R' : RelG C σ { s with heap := h', toks := tk } := R.grow hk
  have S' : Step no σ σ s.heap h' := .grow hk hz
  by_cases c : b > a
  ·rw [if_pos c]; exact hP _ _ σ _ (.int _ _) R' S' (by rwa [Int.max_eq_right (by exact Int.le_of_lt c)] at q)
  ·rw [if_neg c]; exact hP _ _ σ _ (.int _ _) R' S' (by rwa [Int.max_eq_left (by exact Int.not_lt.mp c)] at q)
noncomputable def ja : b7 := fun vs σ Q => onI vs fun i => i.natAbs.log2 < 1920 ∧ Q (.str (Str.ofString (toString i))) σ
theorem vg : nz C k (fun ws => PySem.call (.type "str") ws) ja := by
 intro A s σ vs ws Q P E ao R hv q hP
 replace q := onI.elim q
 obtain ⟨n0, rfl, q⟩ := q
 ·obtain ⟨wa, rfl, h1⟩ := hv.inv1
  cases h1
  exact _root_.PySem.P.str_of_int q.1 (hP _ _ σ _ (.str _ _) (R.tok _) Step.refl q.2)
end
end Mine
end
noncomputable section
namespace Mine
open PySem
section
variable {C : Cx} {sc : Scope} {k : Nat}
noncomputable def fE : O2
 | .int x, .int y, σ, Q => Q (.int (x + y)) σ
 | .str x, .str y, σ, Q => x.length + y.length ≤ 16777216 ∧ Q (.str (x ++ y)) σ
 | .ref a, .ref b, σ, Q => ∃ xs ys, σ a = some (.list xs) ∧ σ b = some (.list ys) ∧ xs.length + ys.length ≤ 16777216 ∧ dc (xs ++ ys) σ Q
 | _, _, _, _ => False
theorem fP : gQ C k (binaryOp .Add) fE := by
 intro A s σ a b wa wb Q P E ao R va vb q hP
 cases a <;> first | exact q.elim | skip
 all_goals (cases b <;> first | exact q.elim | skip)
 ·cases va; cases vb
  exact _root_.PySem.P.add_int (hP _ _ σ _ (.int _ _) (R.tok _) Step.refl q)
 ·cases va; cases vb
  exact SB.add (fun t' tk => hP _ _ σ _ (.str _ _) (R.tok _) Step.refl q.2) (by rw [sizeLine_eq]; exact q.1)
 ·rename_i a b
  cases va; cases vb
  obtain ⟨xs, ys, hx, hy, hz, q⟩ := q
  obtain ⟨_, ws, ⟨n, h1⟩, h2⟩ := R.view _ _ hx
  obtain ⟨_, us, ⟨n', h3⟩, h4⟩ := R.view _ _ hy
  have e1 := h2.length
  have e2 := h4.length
  have e : ws.toArray ++ us.toArray = (ws ++ us).toArray := by simp
  refine concat_meets ⟨_, h1, rfl⟩ ⟨_, h3, rfl⟩ noFill_list_add seq_list_add _root_.PySem.F.slot_list_add _root_.PySem.F.entry_list_add (_root_.PySem.F.args_list_add_2 _ _)
   (PyProof.Rows.list_addW a b ws.toArray us.toArray n n' Option.none Option.none #[] #[] (by rw [List.size_toArray, List.size_toArray, sizeLine_eq]; exact aD fun hg => lN [(xs.length), (ys.length), (ws.length), (us.length)] 0x7302000000508c25384860c000000a129001 rfl hz (Nat.le_of_eq (Eq.symm e1)) (Nat.le_of_eq (Eq.symm e2)) hg)) ⟨h1, h3, ?_⟩
  rw [e]
  exact iQ (A := A) (tk := s.toks) R (h2.append h4) (by rw [List.length_append]; exact hz) q hP
noncomputable def yK (f : V → V → Option Bool) : List V → List V → Option Bool
 | [], [] => some true
 | a :: as, b :: bs => match f a b, yK f as bs with
  | some x, some y => some (x && y)
  | _, _ => Option.none
 | _, _ => Option.none
theorem xE {A : Around} {s : Shared} {a b : V} {wa wb : Value} {r : Bool} (h : veq0 a b = some r) (va : VRel C.aS s.heap a wa) (vb : VRel C.aS s.heap b wb) : SeqAt.EqAt A s wa wb r := by
 revert va vb
 refine veq0.ind h (P := fun a b r => VRel C.aS s.heap a wa → VRel C.aS s.heap b wb → SeqAt.EqAt A s wa wb r) ?_ ?_ ?_ ?_ ?_ ?_ <;> intros <;> rename_i va vb <;> cases va <;> cases vb
 ·exact SeqAt.EqAt.same _
 ·exact SeqAt.EqAt.none_str _ _
 ·exact SeqAt.EqAt.str_none _ _
 ·exact SeqAt.EqAt.bool_bool _ _
 ·rw [← gq]; exact SeqAt.EqAt.int_int _ _ _ _
 ·rw [← gq]; exact SeqAt.EqAt.str_str _ _ _ _
noncomputable def iy (x : V) : List V → Option Bool
 | [] => some false
 | y :: r => match veq0 y x, iy x r with
  | some a, some b => some (a || b)
  | _, _ => Option.none
noncomputable def uM : Value → Value → Bool
 | .none, .none => true
 | .bool a, .bool b => a == b
 | .int a _, .int b _ => decide (a = b)
 | .str a _, .str b _ => decide (a = b)
 | _, _ => false
theorem sY {s : Shared} {a b : V} {wa wb : Value} {r : Bool} (h : veq0 a b = some r) (va : VRel C.aS s.heap a wa) (vb : VRel C.aS s.heap b wb) : uM wa wb = r := by
 revert va vb
 refine veq0.ind h (P := fun a b r => VRel C.aS s.heap a wa → VRel C.aS s.heap b wb → uM wa wb = r) ?_ ?_ ?_ ?_ ?_ ?_ <;> intros <;> rename_i va vb <;> cases va <;> cases vb <;> rfl
theorem iv {s : Shared} {A : Around} {x : V} {wx : Value} (hx : VRel C.aS s.heap x wx) : ∀ {ys : List V} {ws : List Value} {r : Bool}, iy x ys = some r → VRels C.aS s.heap ys ws →
  (∀ w ∈ ws, SeqAt.EqAt A s w wx (uM w wx)) ∧ ws.any (fun w => uM w wx) = r
 | [], _, r, h, hn => by cases h; rw [hn.inv0]; exact ⟨fun _ hw => (nomatch hw), rfl⟩
 | y :: ys, _, r, h, hc => by
  obtain ⟨w, ws, rfl, hy, hr⟩ := hc.invC
  unfold iy at h
  split at h
  ·rename_i a b h1 h2
   cases h
   obtain ⟨i1, i2⟩ := iv (A := A) hx h2 hr
   refine ⟨fun w' hw => ?_, ?_⟩
   ·rcases List.mem_cons.mp hw with rfl | hw
    ·rw [sY h1 hy hx]; exact xE h1 hy hx
    ·exact i1 w' hw
   ·rw [List.any_cons, i2, sY h1 hy hx]
  ·cases h
noncomputable def qu : O2
 | x, .ref a, σ, Q => ∃ ys r, σ a = some (.list ys) ∧ iy x ys = some r ∧ Q (.bool r) σ
 | x, .tup ys, σ, Q => ∃ r, iy x ys = some r ∧ Q (.bool r) σ
 | _, _, _, _ => False
noncomputable def dL : O2
 | x, .ref a, σ, Q => ∃ ys r, σ a = some (.list ys) ∧ iy x ys = some r ∧ Q (.bool (!r)) σ
 | x, .tup ys, σ, Q => ∃ r, iy x ys = some r ∧ Q (.bool (!r)) σ
 | _, _, _, _ => False
theorem sy : gQ C k (compareOp .In) qu := by
 intro A s σ a b wa wb Q P E ao R va vb q hP
 cases b <;> first | exact q.elim | skip
 ·cases vb
  obtain ⟨ys, r, hy, hr, q⟩ := q
  obtain ⟨_, ws, h1, h2⟩ := R.view _ _ hy
  obtain ⟨i1, i2⟩ := iv (A := A.in1) va hr h2
  refine SeqAt.in_listAt (fun w => uM w wa) h1.isList (fun y hy => i1 y (by simpa using hy)) ?_
  rw [← Array.any_toList, i2]
  exact hP _ _ σ s (.bool r) R Step.refl q
 ·cases vb with | @tup _ p ws ht hvs =>
  obtain ⟨r, hr, q⟩ := q
  obtain ⟨i1, i2⟩ := iv (A := A.in1) va hr hvs
  refine SeqAt.in_tupleAt (fun w => uM w wa) ht (fun y hy => i1 y (by simpa using hy)) ?_
  rw [← Array.any_toList, i2]
  exact hP _ _ σ s (.bool r) R Step.refl q
theorem gm : gQ C k (compareOp .NotIn) dL := by
 intro A s σ a b wa wb Q P E ao R va vb q hP
 cases b <;> first | exact q.elim | skip
 ·cases vb
  obtain ⟨ys, r, hy, hr, q⟩ := q
  obtain ⟨_, ws, h1, h2⟩ := R.view _ _ hy
  obtain ⟨i1, i2⟩ := iv (A := A.in1) va hr h2
  refine SeqAt.notIn_listAt (fun w => uM w wa) h1.isList (fun y hy => i1 y (by simpa using hy)) ?_
  rw [← Array.any_toList, i2]
  exact hP _ _ σ s (.bool (!r)) R Step.refl q
 ·cases vb with | @tup _ p ws ht hvs =>
  obtain ⟨r, hr, q⟩ := q
  obtain ⟨i1, i2⟩ := iv (A := A.in1) va hr hvs
  refine SeqAt.notIn_tupleAt (fun w => uM w wa) ht (fun y hy => i1 y (by simpa using hy)) ?_
  rw [← Array.any_toList, i2]
  exact hP _ _ σ s (.bool (!r)) R Step.refl q
noncomputable def bq : b7 := fun vs σ Q => onRV vs fun a v => ∃ xs, σ a = some (.list xs) ∧ xs.length < 16777216 ∧ Q .none (aZ σ a (.list (xs ++ [v])))
theorem ro : nz C k (fun ws => PySem.call (.builtin "list.append") ws) bq := by
 intro A s σ vs ws Q P E ao R hv q hP
 replace q := onRV.elim q
 obtain ⟨a, v, rfl, q⟩ := q
 ·obtain ⟨wa, wb, rfl, h1, h2⟩ := hv.inv2
  cases h1
  obtain ⟨xs, hx, hz, q⟩ := q
  obtain ⟨_, ws, h3, h4⟩ := R.view _ _ hx
  have e := h4.length
  refine wpAny_list_append_plain h3 (fun h' hp' hs' => ?_) (by rw [List.size_toArray, ← e, sizeLine_eq]; (rename_i zz0; exact zz0))
  obtain ⟨n, hn⟩ := h3
  have kt : a6 s.heap h' := fun b o eb ht => hs'.extBut b o (by rintro rfl; rw [hn] at eb; cases eb; simp [i7] at ht) eb
  refine hP .none .none (aZ σ a (.list (xs ++ [v]))) _ .none (R.change (tk := s.toks) hx hs' ⟨by simp; exact Nat.le_of_lt_succ hz, ws ++ [wb], by simpa using hp', (h4.append (.cons h2 .nil)).keep kt⟩) (.change hx hs') q
noncomputable def bI (op : V → V → V → ai → (ai → Prop) → Prop) (T To Ti : ET) : ST := fun m σ Q => T m σ fun v σ₁ => To m σ₁ fun o σ₂ => Ti m σ₂ fun i σ₃ => op o i v σ₃ fun σ₄ => Q .next m σ₄
noncomputable def qO (C : Cx) (k : Nat) (op : V → V → V → ai → (ai → Prop) → Prop) : Prop :=
 ∀ (A : Around) (s : Shared) (σ : ai) (o i v : V) (wo wi w : Value) (Q : ai → Prop) (P : Unit → Shared → Prop) (E : Value → Shared → Prop), AOk C A k → RelG C σ s → VRel C.aS s.heap o wo → VRel C.aS s.heap i wi → VRel C.aS s.heap v w → op o i v σ Q →
  (∀ σ' s', RelG C σ' s' → Step no σ σ' s.heap s'.heap → Q σ' → P () s') → wpAny (model C.prog C.w) A (setItem wo wi w) P E s
theorem bG {o i value : Expr} {p pos : Pos} {op : V → V → V → ai → (ai → Prop) → Prop} {T To Ti : ET} (hop : qO C k op) (hv : HE C sc k value T) (ho : HE C sc k o To) (hi : HE C sc k i Ti)
  (hs : ∀ env, EnvOk env sc → swapsWith value (some (.Subscript o i p)) pos.line env = pure false) : HS1 C sc k (.Assign [.Subscript o i p] value pos) (bI op T To Ti) := by
 refine ⟨?_⟩; intro env A s m σ Q P E en ao R F q hP
 refine wpAny_Assign_Subscript (hv.run env A s m σ _ _ E en ao R F q fun v w σ₁ s₁ v1 R₁ S₁ q₁ => ?_) (hs env en)
 have F₁ := F.step R S₁
 refine ho.run env A s₁ m σ₁ _ _ E en ao R₁ F₁ q₁ fun o wo σ₂ s₂ v2 R₂ S₂ q₂ => ?_
 have F₂ := F₁.step R₁ S₂
 refine hi.run env A s₂ m σ₂ _ _ E en ao R₂ F₂ q₂ fun i wi σ₃ s₃ v3 R₃ S₃ q₃ => ?_
 have F₃ := F₂.step R₂ S₃
 have k₂ := S₂.tupsN R₁
 have k₃ := S₃.tupsN R₂
 refine hop A s₃ σ₃ o i v wo wi w _ _ E ao R₃ (v2.keep k₃) v3 ((v1.keep k₂).keep k₃) q₃ fun σ₄ s₄ R₄ S₄ q₄ => ?_
 have S := ((S₁.trans S₂).trans S₃).trans S₄
 exact hP .next .next m σ₄ s₄ .next R₄ (F.step R S) S.own q₄
noncomputable def pF : V → V → V → ai → (ai → Prop) → Prop := fun o i v σ Q => isR o fun a => isI i fun i => ∃ xs j, σ a = some (.list xs) ∧ nw i xs.length = some j ∧ Q (aZ σ a (.list (xs.set j v)))
theorem r8 {A : Around} {s : Shared} {l : Addr} {ws : List Value} {i : Int} {t : Tok} {j : Nat} {v : Value} {P : Unit → Shared → Prop} {E : Value → Shared → Prop} (hl : s.heap.PlainList l ws.toArray) (hi : nw i ws.length = some j) (hz : ws.length ≤ 16777216)
  (hQ : ∀ h', h'.PlainList l (ws.set j v).toArray → Heap.SameBut l s.heap h' → P () { s with heap := h' }) : wpAny (model C.prog C.w) A (setItem (.ref l) (.int i t) v) P E s := by
 obtain ⟨n, ho⟩ := id hl
 have hT := hl.isList.typeIs
 have hlt := mD hi
 have hj : j < ws.length := hlt.1
 unfold setItem
 try with_reducible refine wpAny_holding ?_
 first | refine wpAny_bind (wpAny_pure ?_) | skip
 refine wpAny_bind (wpAny_sequenceKey hT (by decide) ?_)
 refine wpAny_bind (wpAny_callSpecial?_slot (name := Str.ofString "__setitem__") hT slot_list_setitem
  (wpAny_call_entry slot_list_setitem hT entry_list_setitem ?_ (args_list_setitem _ _ _)))
 show wpAny _ _ (Builtin.List.listSubscript? (.int i t) >>= _) _ _ s
 have hfit : Builtin.List.listFitsIndex i = true := by
  by_cases h0 : 0 ≤ i
  ·exact fitsIndex_of h0 (pW hlt.2.1 hlt.2.2 hz (by decide)).2
  ·exact fitsIndex_neg (by exact Int.not_le.mp h0) (pW hlt.2.1 hlt.2.2 hz (by decide)).1
 refine wpAny_bind (wpAny_listSubscript_int hfit ?_)
 clear hfit
 have hx' : ws.toArray[j]? = some ws[j] := by simp [hj]
 have fin : P () { s with heap := s.heap.update l (Obj.mapSeq (·.setIfInBounds j v)) } := by
  refine hQ _ ⟨n, ?_⟩ (Heap.SameBut.update ..)
  have em : Obj.mapSeq (·.setIfInBounds j v) { cls := .type "list", data := .seq ws.toArray n } = { cls := .type "list", data := .seq (ws.set j v).toArray n } := by simp [Obj.mapSeq]
  rw [Heap.get?_update_self _ ho (by rw [em]; rfl), em]
 by_cases h0 : 0 ≤ i
 ·have ej : j = i.toNat := by unfold nw at hi; rw [if_pos h0] at hi; split at hi <;> cases hi; rfl
  obtain ⟨n', rfl⟩ := Int.eq_ofNat_of_zero_le h0
  have ej' : j = n' := by simpa using ej
  subst ej'
  show wpAny _ _ ((seqItemAt l j >>= fun r => pure (r.map (j, ·))) >>= _) _ _ s
  refine wpAny_bind (wpAny_bind (wpAny_seqItemAt ho rfl (wpAny_pure ?_)))
  rw [hx']
  show wpAny _ _ (setSeqItemAt l j v >>= _) _ _ s
  refine wpAny_bind (wpAny_setSeqItemAt ho rfl ?_)
  exact wpAny_pure ⟨.none, rfl, wpAny_pure fin⟩
 ·have hidx := mz hi
  obtain ⟨n', rfl⟩ : ∃ j : Nat, i = Int.negSucc j := by
   cases i with
   | ofNat n => exact absurd (Int.natCast_nonneg n) h0
   | negSucc n => exact ⟨n, rfl⟩
  show wpAny _ _ ((Builtin.List.listItems (.ref l) >>= fun xs => pure ((seqIndex? (Int.negSucc n') xs.size).bind fun i => xs[i]?.map (i, ·))) >>= _) _ _ s
  refine wpAny_bind (wpAny_bind ?_)
  show wpAny _ _ (seqItems? (.ref l) >>= _) _ _ s
  refine wpAny_bind (wpAny_seqItems ho rfl (wpAny_pure (wpAny_pure ?_)))
  rw [List.size_toArray, hidx]
  simp only [Option.bind_some, hx', Option.map_some]
  show wpAny _ _ (setSeqItemAt l j v >>= _) _ _ s
  refine wpAny_bind (wpAny_setSeqItemAt ho rfl ?_)
  exact wpAny_pure ⟨.none, rfl, wpAny_pure fin⟩
theorem VRels.set {aS : Addr} {h : Heap} : ∀ {vs : List V} {ws : List Value}, VRels aS h vs ws → ∀ {v : V} {w : Value} (j : Nat), VRel aS h v w → VRels aS h (vs.set j v) (ws.set j w)
 | _, _, .nil, _, _, _, _ => .nil
 | _, _, .cons a r, _, _, 0, hv => .cons hv r
 | _, _, .cons a r, _, _, j + 1, hv => .cons a (VRels.set r j hv)
theorem jF : qO C k pF := by
 intro A s σ o i v wo wi w Q P E ao R vo vi vv q hP
 replace q := isR.elim q
 obtain ⟨a, rfl, q⟩ := q
 replace q := isI.elim q
 obtain ⟨i, rfl, q⟩ := q
 ·cases vo; cases vi
  obtain ⟨xs, j, hx, hj, q⟩ := q
  obtain ⟨hz, ws, h1, h2⟩ := R.view _ _ hx
  refine r8 (j := j) h1 (by rw [← h2.length]; exact hj) (by rw [← h2.length]; exact hz) fun h' hp' hs' => ?_
  obtain ⟨n, hn⟩ := h1
  have kt : a6 s.heap h' := fun b o eb ht => hs'.extBut b o (by rintro rfl; rw [hn] at eb; cases eb; simp [i7] at ht) eb
  exact hP (aZ σ a (.list (xs.set j v))) _ (R.change (tk := s.toks) hx hs' ⟨by simpa using hz, ws.set j w, hp', (h2.set j vv).keep kt⟩) (.change hx hs') q
noncomputable def cr (l : List (String × Pos)) : List Expr := l.map fun p => Expr.Name (Str.ofString p.1) p.2
theorem ly (p : String × Pos) (l : List (String × Pos)) (env : Env) : assignEach (cr (p :: l)) env = (false, assign (.Name (Str.ofString p.1) p.2) env) :: assignEach (cr l) env := rfl
theorem eG (env : Env) : ∀ (l : List (String × Pos)), (assignEach (cr l) env).length = l.length ∧ (assignEach (cr l) env).findIdx? (·.1) = Option.none
 | [] => ⟨rfl, rfl⟩
 | p :: r => by
  rw [ly]
  refine ⟨by simp [(eG env r).1], ?_⟩
  rw [List.findIdx?_cons]
  simp [(eG env r).2]
theorem ji {env : Env} {A : Around} {E : Value → Shared → Prop} (en : EnvOk env sc) (l : List (String × Pos)) : ∀ (vs : List V) (ws : List Value) (s : Shared) (m : bg) (σ : ai) (P : Unit → Shared → Prop), l.length = vs.length → (∀ x ∈ l, sc.names.lookup (Str.ofString x.1) = some .local) →
  RelG C σ s → FrameRel C env m σ s.heap → VRels C.aS s.heap vs ws →
  (∀ s', RelG C σ s' → FrameRel C env (aF (l.map (·.1)) vs m) σ s'.heap → Step (fun b => b = env.locals) σ σ s.heap s'.heap → P () s') →
  wpAny (model C.prog C.w) A (assignInOrder ((assignEach (cr l) env).map (·.2)) ws) P E s := by
 induction l with
 | nil =>
  intro vs ws s m σ P h1 h2 R F hv h
  cases vs with
  | nil => cases hv; exact wpAny_pure (h s R F Step.refl)
  | cons => simp at h1
 | cons x l ih =>
  intro vs ws s m σ P h1 h2 R F hv h
  cases vs with
  | nil => simp at h1
  | cons v vs =>
   cases hv with | @cons _ w _ ws hv hvs =>
   rw [ly, List.map_cons]
   have e : assignInOrder (assign (.Name (Str.ofString x.1) x.2) env :: (assignEach (cr l) env).map (·.2)) (w :: ws) = (do holding ws (assign (.Name (Str.ofString x.1) x.2) env w); assignInOrder ((assignEach (cr l) env).map (·.2)) ws) := by rw [assignInOrder]
   show wpAny _ A (assignInOrder (assign (.Name (Str.ofString x.1) x.2) env :: (assignEach (cr l) env).map (·.2)) (w :: ws)) P E s
   rw [e]
   refine wpAny_bind (wpAny_holding (wpAny_assign_Name (d4 en R F (h2 x (.head _)) hv fun s₁ R₁ F₁ S₁ => ?_)))
   have kt : a6 s.heap s₁.heap := S₁.tups R fun b o z e => by subst z; exact F.ownT _ o (.inl rfl) e
   exact ih vs ws s₁ (put m x.1 v) σ P (by simpa using h1) (fun y hy => h2 y (.tail _ hy)) R₁ F₁ (hvs.keep kt) fun s₂ R₂ F₂ S₂ => h s₂ R₂ F₂ (S₁.trans S₂)
theorem FrameRel.grow {env : Env} {m : bg} {σ : ai} {h h' : Heap} (F : FrameRel C env m σ h) (keep : ∀ b o, h.get? b = some o → h'.get? b = some o) : FrameRel C env m σ h' := by
 have kt : a6 h h' := fun b o e _ => keep b o e
 have kc : ∀ c v, h.IsCell c v → h'.IsCell c v := fun c v ⟨o, ho, hd⟩ => ⟨o, keep c o ho, hd⟩
 obtain ⟨mm, hn, hv⟩ := F.ns
 refine ⟨⟨mm, hn.keeps keep, fun x v e k => ?_⟩, fun x v e => ?_, fun n c e => ?_, F.sepL, F.baseL, F.baseC, F.dist, F.has⟩
 ·obtain ⟨w, h1, h2⟩ := hv x v e k; exact ⟨w, h1, h2.keep kt⟩
 ·rcases F.cel x v e with q | ⟨q, c, w, h1, h2, h3⟩
  ·exact .inl q
  ·exact .inr ⟨q, c, w, h1, kc _ _ h2, h3.keep kt⟩
 ·obtain ⟨v, hv⟩ := F.cells n c e; exact ⟨v, kc _ _ hv⟩
theorem wd (O : C.Ok) {l : List (String × Pos)} {n : Nat} {pos : Pos} (hx : ∀ x ∈ l, sc.names.lookup (Str.ofString x.1) = some .local) : HT C sc k true (.Tuple (cr l) n pos) (.tup (l.map (·.1))) := by
 refine ⟨?_⟩; intro env A s m m' σ v w P E en ao R F hv hb hP
 cases v <;> simp only [fV] at hb <;> first | cases hb | skip
 split at hb
 ·rename_i vs hlen
  cases hb
  cases hv with | @tup _ t ws ht hvs =>
  have hlen' : l.length = vs.length := by simpa using hlen
  refine bv (ut (ao.hd O R) ht (by rw [(eG env _).1, List.size_toArray, ← hvs.length, hlen']) (eG env _).2 fun h' hx' => ?_)
  have keep : ∀ b o, s.heap.get? b = some o → h'.get? b = some o := fun b o e => hx' b o (Nat.ne_of_lt (Heap.lt_size e)) e
  have e : ws.toArray.toList = ws := by simp
  rw [e]
  refine ji en l vs ws _ m σ _ hlen' hx (R.grow (tk := s.toks) keep) (F.grow keep) (hvs.keep fun b o e _ => keep b o e) fun s₂ R₂ F₂ S₂ hsz => ?_
  exact hP s₂ R₂ F₂ ⟨fun b o e n q => S₂.keepL b o (keep b o e) n fun z => q (.inl z), hsz, fun _ a b => absurd a b⟩
 ·cases hb
end
end Mine
end
noncomputable section
namespace Mine
open PySem PySem.W PyProof.Rows PySem.Calls
noncomputable def bF (p : Program) (n : Nat) : List Stmt := match p.main.body[n]? with | some (.FunctionDef _ _ b _ _ _ _ _ _ _) => b | _ => []
noncomputable def aW (p : Program) (n : Nat) : Scope := match p.main.body[n]? with | some (.FunctionDef _ _ _ _ _ _ s _ _ _) => s | _ => default
noncomputable def sj (p : Program) (n : Nat) : Arguments := match p.main.body[n]? with | some (.FunctionDef _ a _ _ _ _ _ _ _ _) => a | _ => default
noncomputable def xe (p : Program) (n : Nat) : Pos := match p.main.body[n]? with | some (.FunctionDef _ _ _ _ _ _ _ _ _ q) => q | _ => default
noncomputable def FnAt (C : Cx) (j : Nat) (f : String) (spec : b7) : Prop :=
 ∃ a o fd, C.mg (Str.ofString f) = some (.ref a) ∧ C.hB.get? a = some o ∧ o.data = .func fd ∧ FnSound C j a spec
structure Gl (C : Cx) (p : Program) : Prop where
 ok : C.Ok
 mb : ∀ x : Str, x ≠ "__name__" → C.mb x = bootBuiltins x
 free : ∀ x ∈ ["len", "range", "min", "max", "isinstance", "bool", "str", "int", "list", "dict", "set", "sorted", "tuple", "sum", "type"], C.mg (Str.ofString x) = Option.none
 fn : ∀ d ∈ recsOf p, ∃ a o pm code doc, C.mg d.name = some (.ref a) ∧ C.hB.get? a = some o ∧ o.data = .func (docDef d.name d.params d.body d.scope pm code doc) ∧ C.hB.CodeRec code d.name
variable {C : Cx} {p : Program}
theorem Gl.blt (G : Gl C p) {x : String} {v : Value} (h : bootBuiltins (Str.ofString x) = some v) (hx : x ≠ "__name__") : C.mb (Str.ofString x) = some v := by
 rw [G.mb _ (fun e => hx (ci e)), h]
theorem aA (G : Gl C p) {sc : Scope} {k : Nat} {f : String} {np pos : Pos} {es : List Expr} {L : LT} {spec : b7} {j : Nat} (hf : FnAt C j f spec) (hj : j < k)
  (hn : sc.names.lookup (Str.ofString f) = some .globalImplicit) (hdb : (Str.ofString f == ("__debug__" : Str)) = false)
  (hl : HL C sc k es L) (hp : aO es = true) : HE C sc k (.Call (.Name (Str.ofString f) np) es [] pos) (az spec L) := by
 obtain ⟨a, o, fd, h1, h2, h3, h4⟩ := hf
 exact uB G.ok h4 hj hn h1 h2 h3 hdb hl hp
theorem FnAt.mk (G : Gl C p) (i n : Nat) {f : String} {xs : List String} {j : Nat} {spec : b7} {T : ST}
  (hm : (recsOf p)[i]? = some ⟨Str.ofString f, sj p n, bF p n, aW p n, xe p n⟩)
  (hk : (aW p n).kind = .function) (hfr : ((aW p n).names.all fun q => q.2 != .free) = true) (hco : (aW p n).isCoroutine = false) (hgen : (aW p n).isGenerator = false)
  (hbind : ∀ (ws : List Value) (pm code doc : Value), ws.length = xs.length → bindArgs (docDef (Str.ofString f) (sj p n) (bF p n) (aW p n) pm code doc) ⟨ws, []⟩ = pure ((xs.map Str.ofString).zip ws))
  (hloc : (xs.all fun x => (aW p n).names.lookup (Str.ofString x) == some .local || (aW p n).names.lookup (Str.ofString x) == some .cell) = true)
  (hT : HS C (aW p n) j (bF p n) T)
  (hspec : ∀ vs σ Q, spec vs σ Q → vs.length = xs.length ∧ T (aF xs vs aN) σ fun f _ σ' => match f with | .ret v => Q v σ' | .next => Q .none σ' | _ => False) : FnAt C j f spec := by
 obtain ⟨a, o, pm, code, doc, h1, h2, h3, h4⟩ := G.fn _ (List.mem_of_getElem? hm)
 refine ⟨a, o, _, h1, h2, h3, FnSound.mk G.ok (xs := xs) h2 h3 h4 rfl rfl rfl rfl rfl hk ?_ hco hgen (fun ws hw => hbind ws pm code doc hw) ?_ hT hspec⟩
 ·intro q hq
  have := List.all_eq_true.mp hfr q hq
  simpa using this
 ·intro x hx
  have := List.all_eq_true.mp hloc x hx
  simp only [Bool.or_eq_true, beq_iff_eq] at this
  exact this
noncomputable def uG : b7 := fun vs σ Q => vs = [.script] ∧ (∀ a, σ a = Option.none) ∧ ∀ σ', Q (.bool true) σ'
theorem n9 {vs : List Value} {ns : List Int} (h : IntsAre vs ns) : vs.length = ns.length ∧ ∀ (i : Nat) n, ns[i]? = some n → ∃ t, vs[i]? = some (Value.int n t) := by
 induction h with
 | nil => exact ⟨rfl, fun i n e => by simp at e⟩
 | cons a t h ih =>
  refine ⟨by simp [ih.1], fun i n e => ?_⟩
  cases i with
  | zero => simp at e; subst e; exact ⟨_, rfl⟩
  | succ i => simpa using ih.2 i n (by simpa using e)
theorem Cx.ok_of {C : Cx} (hz : C.held = none) {vs : List Value} {loose : List Str} {mean : ExcName → Option Value} (T : Top p loose mean C.mg C.mb C.hB) (hi : importsNone p = true) (hL : C.hB.IsList C.aS vs.toArray) (hI : IntsAre vs C.ns) (hn : ¬ (63 : Int) < (C.ns.length : Int)) : C.Ok where
 g := T.g
 b := T.b
 nolimit := T.nolimit
 mods := by obtain ⟨mm, ⟨o, _, _, ho, _⟩, _⟩ := (T.seer hi).mods; exact ⟨o, ho⟩
 few := by omega
 heldOk := fun e he => by rw [hz] at he; cases he
 script := ⟨_, hL, by simpa using (n9 hI).1, by simpa using (n9 hI).2⟩
theorem Gl.of {C : Cx} {loose : List Str} {mean : ExcName → Option Value} (T : Top p loose mean C.mg C.mb C.hB) (ok : C.Ok)
  (hf : (["len", "range", "min", "max", "isinstance", "bool", "str", "int", "list", "dict", "set", "sorted", "tuple", "sum", "type"].all fun x : String => !(startupNames ++ loose ++ (recsOf p).map (·.name) ++ (litsOf p).map (·.1) ++ (clssOf p loose).map (·.name)).contains (Str.ofString x)) = true) : Gl C p where
 ok := ok
 mb := T.builtins
 fn := T.fn
 free := fun x hx => by
  have := List.all_eq_true.mp hf x hx
  simp only [Bool.not_eq_true', List.contains_eq_mem, decide_eq_false_iff_not, List.mem_append, not_or] at this
  obtain ⟨⟨⟨⟨h1, h2⟩, h3⟩, h4⟩, h5⟩ := this
  exact T.free _ h1 h2 h3 h4 h5
theorem sN {C : Cx} (hz : C.held = none) {f : Addr} {j : Nat} {r : OpenLaw} {args : List WData} {cl : Str → Option Addr} {mean : ExcName → Option Value} (hf : FnSound C j f uG) (hj : j ≤ 100) (hg : C.s₁.gens = #[])
  (hn : ∀ cls, r.row.claim.raises args cls = false) (hp : r.row.claim.post args (.bool true) args = true) :
  codeAny (model C.prog C.w) callerA (.call (.ref f) ⟨[.ref C.aS], []⟩) (GoodWG r.row.claim cl mean args C.s₁) C.s₁ := by
 refine codeAny_mono (hf callerA C.s₁ (fun _ => Option.none) [.script] [.ref C.aS] (fun v σ => v = .bool true) (fun w s' => w = .bool true ∧ ∃ σ', RelG C σ' s') (fun _ _ => False) ⟨by rw [hz]; rfl, ?_, ?_⟩ ⟨⟨_, _, _, rfl⟩, fun _ _ e => e, fun _ _ e => by (cases e), fun _ e => absurd rfl e⟩ (.cons .script .nil) ⟨rfl, fun _ => rfl, fun _ => rfl⟩ ?_) ?_
 ·show 1 + claimMargin + 3 * (j + 1) + 3 < recursionLimit
  have : claimMargin = 300 := rfl
  have : recursionLimit = 1000 := rfl
  omega
 ·show 4 + 10 * (j + 1) + 20 < cLine
  unfold cLine
  omega
 ·intro v w σ' s' hv R' S' q
  subst q
  cases hv with | bool b => exact ⟨rfl, σ', R'⟩
 ·intro res s' h
  cases res with
  | error e => exact h.elim
  | ok fl =>
   cases fl with
   | ret v =>
    obtain ⟨rfl, σ', R'⟩ := h
    obtain ⟨h₁, tk, d₁, e⟩ := R'.rest
    refine GoodW.toG ⟨.inl ⟨_, .bool true, [], rfl, hn, .bool true, hp, fun _ => ⟨List.nodup_nil, fun a h => by cases h⟩⟩, R'.base, ?_, ?_⟩
    ·rw [e]
    ·rw [e]; exact hg
   | _ => exact h.elim
end Mine
end
noncomputable section
namespace Mine
open PySem PySem.W PyProof.Rows PySem.Calls
section
variable {C : Cx} {p : Program} {sc : Scope} {k : Nat}
theorem vV : bootBuiltins (Str.ofString "len") = some (.builtin "len") := by decide +kernel
theorem vU : bootBuiltins (Str.ofString "min") = some (.builtin "min") := by decide +kernel
theorem to : bootBuiltins (Str.ofString "max") = some (.builtin "max") := by decide +kernel
theorem vW : bootBuiltins (Str.ofString "isinstance") = some (.builtin "isinstance") := by decide +kernel
theorem oK : bootBuiltins (Str.ofString "range") = some (.type "range") := by decide +kernel
theorem ul : bootBuiltins (Str.ofString "bool") = some (.type "bool") := by decide +kernel
theorem vS : bootBuiltins (Str.ofString "str") = some (.type "str") := by decide +kernel
theorem vX : bootBuiltins (Str.ofString "int") = some (.type "int") := by decide +kernel
theorem qJ : bootBuiltins (Str.ofString "list") = some (.type "list") := by decide +kernel
theorem uk : bootBuiltins (Str.ofString "dict") = some (.type "dict") := by decide +kernel
theorem tj : bootBuiltins (Str.ofString "tuple") = some (.type "tuple") := by decide +kernel
theorem be (G : Gl C p) {np pos : Pos} {es : List Expr} {L : LT} (hn : sc.names.lookup (Str.ofString "len") = some .globalImplicit) (hl : HL C sc k es L) (hp : aO es = true) : HE C sc k (.Call (.Name (Str.ofString "len") np) es [] pos) (az (bh C.ns) L) :=
 df G.ok (vu G.ok) hn (G.free _ (by decide)) (G.blt vV (by decide)) rfl hl hp
theorem qR (G : Gl C p) (hz : C.held = Option.none) {np pos : Pos} {es : List Expr} {L : LT} (hn : sc.names.lookup (Str.ofString "min") = some .globalImplicit) (hl : HL C sc k es L) (hp : aO es = true) : HE C sc k (.Call (.Name (Str.ofString "min") np) es [] pos) (az nJ L) :=
 df G.ok (vq hz) hn (G.free _ (by decide)) (G.blt vU (by decide)) rfl hl hp
theorem qS (G : Gl C p) (hz : C.held = Option.none) {np pos : Pos} {es : List Expr} {L : LT} (hn : sc.names.lookup (Str.ofString "max") = some .globalImplicit) (hl : HL C sc k es L) (hp : aO es = true) : HE C sc k (.Call (.Name (Str.ofString "max") np) es [] pos) (az nK L) :=
 df G.ok (vr hz) hn (G.free _ (by decide)) (G.blt to (by decide)) rfl hl hp
theorem hJ (G : Gl C p) {np pos : Pos} {es : List Expr} {L : LT} (hn : sc.names.lookup (Str.ofString "isinstance") = some .globalImplicit) (hl : HL C sc k es L) (hp : aO es = true) : HE C sc k (.Call (.Name (Str.ofString "isinstance") np) es [] pos) (az cn L) :=
 df G.ok vx hn (G.free _ (by decide)) (G.blt vW (by decide)) rfl hl hp
theorem qP (G : Gl C p) {np pos : Pos} {es : List Expr} {L : LT} (hn : sc.names.lookup (Str.ofString "str") = some .globalImplicit) (hl : HL C sc k es L) (hp : aO es = true) : HE C sc k (.Call (.Name (Str.ofString "str") np) es [] pos) (az ja L) :=
 pn G.ok vg hn (G.free _ (by decide)) (G.blt vS (by decide)) rfl hl hp
theorem du (G : Gl C p) (hz : C.held = Option.none) {np pos : Pos} {es : List Expr} {L : LT} (hn : sc.names.lookup (Str.ofString "range") = some .globalImplicit) (hl : HL C sc k es L) (hp : aO es = true) : HI C sc k (.Call (.Name (Str.ofString "range") np) es [] pos) (cz L) :=
 tw G.ok hz hl hp hn (G.free _ (by decide)) (G.blt oK (by decide))
theorem ph (G : Gl C p) {pos : Pos} (h : sc.names.lookup (Str.ofString "bool") = some .globalImplicit) : HE C sc k (.Name (Str.ofString "bool") pos) (aE (.ty "bool")) := nu G.ok h (G.free _ (by decide)) (G.blt ul (by decide)) rfl
theorem qV (G : Gl C p) {pos : Pos} (h : sc.names.lookup (Str.ofString "int") = some .globalImplicit) : HE C sc k (.Name (Str.ofString "int") pos) (aE (.ty "int")) := nu G.ok h (G.free _ (by decide)) (G.blt vX (by decide)) rfl
theorem pg (G : Gl C p) {pos : Pos} (h : sc.names.lookup (Str.ofString "list") = some .globalImplicit) : HE C sc k (.Name (Str.ofString "list") pos) (aE (.ty "list")) := nu G.ok h (G.free _ (by decide)) (G.blt qJ (by decide)) rfl
theorem rR (G : Gl C p) {pos : Pos} (h : sc.names.lookup (Str.ofString "tuple") = some .globalImplicit) : HE C sc k (.Name (Str.ofString "tuple") pos) (aE (.ty "tuple")) := nu G.ok h (G.free _ (by decide)) (G.blt tj (by decide)) rfl
theorem pe {o : Expr} {apos pos : Pos} {es : List Expr} {To : ET} {L : LT} (ho : HE C sc k o To) (hl : HL C sc k es L) (hp : aO es = true)
  (hbase : ∀ env, attributeBase o (Str.ofString "split") env (eval o env) = eval o env) (hline : (apos.endLine == pos.line) = true) (hfew : es.length < 30) : HE C sc k (.Call (.Attribute o (Str.ofString "split") apos) es [] pos) (br hZ ii To L) :=
 fz jQ F.plainAttrs_str F.slot_str_split F.type_str_split sv ho hl hp hbase hline hfew
theorem uz {o : Expr} {apos pos : Pos} {es : List Expr} {To : ET} {L : LT} (ho : HE C sc k o To) (hl : HL C sc k es L) (hp : aO es = true)
  (hbase : ∀ env, attributeBase o (Str.ofString "join") env (eval o env) = eval o env) (hline : (apos.endLine == pos.line) = true) (hfew : es.length < 30) : HE C sc k (.Call (.Attribute o (Str.ofString "join") apos) es [] pos) (br hZ pD To L) :=
 fz jQ F.plainAttrs_str F.slot_str_join F.type_str_join tY ho hl hp hbase hline hfew
theorem rQ {o : Expr} {apos pos : Pos} {es : List Expr} {To : ET} {L : LT} (ho : HE C sc k o To) (hl : HL C sc k es L) (hp : aO es = true)
  (hbase : ∀ env, attributeBase o (Str.ofString "startswith") env (eval o env) = eval o env) (hline : (apos.endLine == pos.line) = true) (hfew : es.length < 30) : HE C sc k (.Call (.Attribute o (Str.ofString "startswith") apos) es [] pos) (br hZ ig To L) :=
 fz jQ F.plainAttrs_str F.slot_str_startswith F.type_str_startswith rj ho hl hp hbase hline hfew
theorem bW {o : Expr} {apos pos : Pos} {es : List Expr} {To : ET} {L : LT} (ho : HE C sc k o To) (hl : HL C sc k es L) (hp : aO es = true)
  (hbase : ∀ env, attributeBase o (Str.ofString "append") env (eval o env) = eval o env) (hline : (apos.endLine == pos.line) = true) (hfew : es.length < 30) : HE C sc k (.Call (.Attribute o (Str.ofString "append") apos) es [] pos) (br bN bq To L) :=
 fz li F.plainAttrs_list F.slot_list_append F.type_list_append ro ho hl hp hbase hline hfew
theorem aR (G : Gl C p) {value slice : Expr} {pos : Pos} {T U : ET} (hv : HE C sc k value T) (hi : HE C sc k slice U) (hs : ff slice = false) : HE C sc k (.Subscript value slice pos) (aB (aK C.ns) T U) :=
 qf hv hi (tZ G.ok hs)
noncomputable def s9 (sc cs : Scope) (fv gs : List String) : Bool :=
 cs.kind == .function && cs.names.all (fun y => y.2 != .cell) && cs.names.all (fun y => y.2 != .local || cs.names.lookup y.1 == some .local) && decide (cs.names.map (·.1)).Nodup &&
 cs.names.all (fun q => q.2 != .free || fv.any fun x => Str.ofString x == q.1) && fv.all (fun x => cs.names.contains (Str.ofString x, NameKind.free) && (sc.names.lookup (Str.ofString x) == some .cell || sc.names.lookup (Str.ofString x) == some .free)) && gs.all fun x => !fv.contains x
theorem CompOk.of {sc cs : Scope} {fv : List String} {g : Tgt} (h : s9 sc cs fv g.names = true) : CompOk sc cs fv g := by
 unfold s9 at h
 simp only [Bool.and_eq_true, List.all_eq_true, Bool.or_eq_true, bne_iff_ne, beq_iff_eq, decide_eq_true_eq, List.any_eq_true, Bool.not_eq_true', List.contains_eq_mem, decide_eq_false_iff_not] at h
 obtain ⟨⟨⟨⟨⟨⟨h1, h2⟩, h3⟩, h4⟩, h5⟩, h6⟩, h7⟩ := h
 refine ⟨h1, h2, fun y hy e => (h3 y hy).elim (fun n => absurd e n) id, h4, fun q hq e => (h5 q hq).elim (fun n => absurd e n) id, fun x hx => ⟨(h6 x hx).1, (h6 x hx).2⟩, h7⟩
theorem cA {elt : Expr} {gens : List Comprehension} {cs : Scope} {pos : Pos} {t : Str} {q : Pos} {line : Nat} (h : sc.names.lookup t = some .local) (hl : (q.line == pos.line) = true) (hn : (cs.names.any fun y => y.1 == t && (y.2 == .local || y.2 == .cell)) = false) :
  ∀ env, EnvOk env sc → swapsWith (.ListComp elt gens cs pos) (some (.Name t q)) line env = pure true := by
 intro env en
 unfold swapsWith
 have e : env.kindOf t = some .local := en.of h
 have e2 : env.blockKind = .function := by unfold Env.blockKind; rw [en.k]; rfl
 have e3 : (Expr.ListComp elt gens cs pos).pos.line = pos.line := rfl
 simp only [e, e2, e3, hl, hn]
 rfl
end
end Mine
end
noncomputable section
namespace Mine
open PySem PySem.W PyProof.Rows PySem.Calls
noncomputable def Grow (σ σ' : ai) : Prop := ∀ b o, σ b = some o → σ' b = some o
theorem Grow.refl {σ : ai} : Grow σ σ := fun _ _ e => e
theorem Grow.trans {σ₁ σ₂ σ₃ : ai} (h : Grow σ₁ σ₂) (h' : Grow σ₂ σ₃) : Grow σ₁ σ₃ := fun b o e => h' b o (h b o e)
theorem Grow.upd {σ σ' : ai} {a : Addr} {o : AObj} (h : Grow σ σ') (ha : σ' a = Option.none) : Grow σ (aZ σ' a o) := fun b o' e => by
 rw [tG ha (h b o' e)]
noncomputable def eY (xs : List V) (σ : ai) (Q : V → ai → Prop) : Prop := ∀ a σ', Grow σ σ' → σ a = Option.none → σ' a = some (.list xs) → Q (.ref a) σ'
theorem Grow.none {σ σ' : ai} (h : Grow σ σ') {a : Addr} (ha : σ' a = Option.none) : σ a = Option.none := by
 cases e : σ a with
 | none => rfl
 | some o => rw [h a o e] at ha; cases ha
theorem bK {g : Tgt} {inv : ai → Prop} {B : BT} {T : ET} {m : bg} (P : ai → Prop) (hinv : ∀ σ, P σ → inv σ) (f : V → Option V) :
  ∀ (items acc : List V) (σ : ai) (Q : List V → ai → Prop), acc.length + items.length ≤ 1048576 →
  (∀ v ∈ items, ∀ σ (Q₁ : V → ai → Prop) (Q₂ : ai → Prop), P σ → (∀ σ' y, P σ' → f v = some y → Q₁ y σ') → (∀ σ', P σ' → f v = Option.none → Q₂ σ') → ∃ m', fV g v m = some m' ∧ B m' σ fun b σ₁ => if b then T m' σ₁ Q₁ else Q₂ σ₁) →
  P σ → (∀ σ', P σ' → Q (acc ++ items.filterMap f) σ') → dn g inv B T m items acc σ Q
 | [], acc, σ, Q, hz, step, p, q => by
  simp only [dn]
  exact ⟨hinv σ p, by simpa using q σ p⟩
 | v :: r, acc, σ, Q, hz, step, p, q => by
  simp only [dn]
  simp at hz
  obtain ⟨m', h1, h2⟩ := step v (.head _) σ (fun y σ₂ => acc.length < 1048576 ∧ dn g inv B T m r (acc ++ [y]) σ₂ Q) (fun σ₁ => dn g inv B T m r acc σ₁ Q) p
   (fun σ' y p' e => ⟨by exact Nat.lt_of_le_of_lt (Nat.le_add_right _ _) hz, bK P hinv f r (acc ++ [y]) σ' Q (by simp; exact aD fun hg => lN [(acc.length), (r.length)] 0x520c010000028461080000142519001 rfl hz hg) (fun v hv => step v (.tail _ hv)) p' fun σ'' p'' => by simpa [e] using q σ'' p''⟩)
   (fun σ' p' e => bK P hinv f r acc σ' Q (by exact Nat.le_of_lt hz) (fun v hv => step v (.tail _ hv)) p' fun σ'' p'' => by simpa [e] using q σ'' p'')
  exact ⟨hinv σ p, m', h1, h2⟩
theorem bd {g : Tgt} {inv : ai → Prop} {T : ST} (I : Nat → bg → ai → Prop) (R : V → bg → ai → Prop) (hinv : ∀ i m σ, I i m σ → inv σ) (items : List V) {Q : Fl → bg → ai → Prop}
  (step : ∀ i v m σ Q', items[i]? = some v → I i m σ → (∀ m' σ', I (i + 1) m' σ' → Q' .next m' σ') → (∀ m' σ', I (i + 1) m' σ' → Q' .cont m' σ') → (∀ u m' σ', R u m' σ' → Q' (.ret u) m' σ') → ∃ m', fV g v m = some m' ∧ T m' σ Q')
  (done : ∀ m σ, I items.length m σ → Q .next m σ) (ret : ∀ u m σ, R u m σ → Q (.ret u) m σ) : ∀ (m : bg) (σ : ai), I 0 m σ → kj g inv T items m σ Q := by
 have key : ∀ (n : Nat) (i : Nat) (m : bg) (σ : ai), n = items.length - i → i ≤ items.length → I i m σ → kj g inv T (items.drop i) m σ Q := by
  intro n
  induction n with
  | zero =>
   intro i m σ hn hi h
   have : i = items.length := by exact Nat.le_antisymm (aD fun hg => lN [i, (items.length)] 0x10a309481 rfl hi hg) (aD fun hg => lN [(items.length - i), i, (items.length)] 0x628c25200c100481 rfl (Nat.le_of_eq (Eq.symm hn)) (aq (items.length) (i)) hg)
   subst this
   rw [List.drop_length]
   exact ⟨hinv _ _ _ h, done m σ h⟩
  | succ n ih =>
   intro i m σ hn hi h
   have hlt : i < items.length := by exact bP fun hg => lN [n, (items.length - i), i, (items.length)] 0x31c273140129061 rfl (Nat.le_of_eq hn) (ar (aD fun hg => lN [i, (items.length)] 0x10a309481 rfl hi hg)) hg
   rw [List.drop_eq_getElem_cons hlt]
   simp only [kj]
   refine ⟨hinv _ _ _ h, step i _ m σ _ (List.getElem?_eq_getElem hlt) h (fun m' σ' h' => ih (i + 1) m' σ' (by exact Nat.le_antisymm (aD fun hg => lN [n, (items.length - i), i, (items.length), (items.length - (i + 1))] 0x11030986801c273140129061 rfl (Nat.le_of_eq hn) (ar (aD fun hg => lN [i, (items.length)] 0x2146129061 rfl hlt hg)) (aq (items.length) (i + 1)) hg) (aD fun hg => lN [n, (items.length - i), i, (items.length), (items.length - (i + 1))] 0x208309cc340026280e120ca1 rfl (Nat.le_of_eq (Eq.symm hn)) (aq (items.length) (i)) (ar (aD fun hg => lN [i, (items.length)] 0x41946129061 rfl hlt hg)) hg)) (by exact hlt) h') (fun m' σ' h' => ih (i + 1) m' σ' (by exact Nat.le_antisymm (aD fun hg => lN [n, (items.length - i), i, (items.length), (items.length - (i + 1))] 0x11030986801c273140129061 rfl (Nat.le_of_eq hn) (ar (aD fun hg => lN [i, (items.length)] 0x2146129061 rfl hlt hg)) (aq (items.length) (i + 1)) hg) (aD fun hg => lN [n, (items.length - i), i, (items.length), (items.length - (i + 1))] 0x208309cc340026280e120ca1 rfl (Nat.le_of_eq (Eq.symm hn)) (aq (items.length) (i)) (ar (aD fun hg => lN [i, (items.length)] 0x41946129061 rfl hlt hg)) hg)) (by exact hlt) h') fun u m' σ' h' => ret u m' σ' h'⟩
 intro m σ h
 have := key items.length 0 m σ (by exact rfl) (by exact Nat.zero_le _) h
 simpa using this
@[simp] theorem yz (m : bg) (x y : String) (v : V) : put m x v y = bif y == x then some v else m y := rfl
@[simp low] theorem xK {α : Type} (x y : String) (a b : α) : (bif y == x then a else b) = if y = x then a else b := by
 by_cases h : y = x
 ·rw [if_pos h, h, beq_self_eq_true]; rfl
 ·rw [if_neg h, beq_false_of_ne h]; rfl
@[simp] theorem x6 (fv : List String) (m : bg) (x : String) : only fv m x = if x ∈ fv then m x else Option.none := rfl
theorem mu {ws : List Value} (h : ws.length = 1) : ∃ a, ws = [a] := List.length_eq_one_iff.mp h
theorem t7 {n : Nat} {ws : List Value} (h : ws.length = n + 1) : ∃ a r, ws = a :: r ∧ r.length = n := by
 cases ws with
 | nil => cases h
 | cons a r => exact ⟨a, r, rfl, Nat.succ.inj h⟩
theorem k8 {ws : List Value} (h : ws.length = 2) : ∃ a b, ws = [a, b] := by
 obtain ⟨a, r, rfl, g⟩ := t7 h
 obtain ⟨b, rfl⟩ := mu g
 exact ⟨a, b, rfl⟩
theorem jA {ws : List Value} (h : ws.length = 3) : ∃ a b c, ws = [a, b, c] := by
 obtain ⟨a, r, rfl, g⟩ := t7 h
 obtain ⟨b, c, rfl⟩ := k8 g
 exact ⟨a, b, c, rfl⟩
theorem sK {ws : List Value} (h : ws.length = 4) : ∃ a b c d, ws = [a, b, c, d] := by
 obtain ⟨a, r, rfl, g⟩ := t7 h
 obtain ⟨b, c, d, rfl⟩ := jA g
 exact ⟨a, b, c, d, rfl⟩
theorem yC {ws : List Value} (h : ws.length = 5) : ∃ a b c d e, ws = [a, b, c, d, e] := by
 obtain ⟨a, r, rfl, g⟩ := t7 h
 obtain ⟨b, c, d, e, rfl⟩ := sK g
 exact ⟨a, b, c, d, e, rfl⟩
theorem cC {a : Int} {n i : Nat} {v : V} (h : (cK a n)[i]? = some v) : i < n ∧ v = .int (a + i) := by
 unfold cK at h
 rw [List.getElem?_map] at h
 obtain ⟨j, hj, rfl⟩ := Option.map_eq_some_iff.mp h
 obtain ⟨hlt, hji⟩ := List.getElem?_eq_some_iff.mp hj
 simp at hji hlt
 subst hji
 exact ⟨hlt, rfl⟩
theorem eA (a : Int) (n : Nat) : (cK a n).length = n := by simp [cK]
noncomputable def cell (ns : List Int) (k : Int) : Int := ns.getD k.toNat 0
noncomputable def mv (U : ST) (Q : Fl → bg → ai → Prop) : Fl → bg → ai → Prop := fun f m σ => match f with
 | .next => U m σ Q
 | f => Q f m σ
theorem ak (T U : ST) (m : bg) (σ : ai) (Q : Fl → bg → ai → Prop) : an T U m σ Q = T m σ (mv U Q) := by
 unfold an mv; rfl
@[simp] theorem aU (U : ST) (Q : Fl → bg → ai → Prop) (m : bg) (σ : ai) : mv U Q .next m σ = U m σ Q := rfl
@[simp] theorem wr (U : ST) (Q : Fl → bg → ai → Prop) (m : bg) (σ : ai) : mv U Q .cont m σ = Q .cont m σ := rfl
@[simp] theorem xu (U : ST) (Q : Fl → bg → ai → Prop) (m : bg) (σ : ai) : mv U Q .brk m σ = Q .brk m σ := rfl
@[simp] theorem xq (U : ST) (Q : Fl → bg → ai → Prop) (v : V) (m : bg) (σ : ai) : mv U Q (.ret v) m σ = Q (.ret v) m σ := rfl
noncomputable def fin (Q : V → ai → Prop) : Fl → bg → ai → Prop := fun f _ σ' => match f with | .ret v => Q v σ' | .next => Q .none σ' | _ => False
@[simp] theorem yj (Q : V → ai → Prop) (v : V) (m : bg) (σ : ai) : fin Q (.ret v) m σ = Q v σ := rfl
@[simp] theorem xC (Q : V → ai → Prop) (m : bg) (σ : ai) : fin Q .next m σ = Q .none σ := rfl
section
variable {m : bg} {σ : ai} {Q : V → ai → Prop} {R : Fl → bg → ai → Prop} {B : Bool → ai → Prop} {K : List V → ai → Prop} {J : List V → (ai → Prop) → ai → Prop} {O : Option Int → ai → Prop} {ns : List Int}
@[simp] theorem qs {x : String} {T : ET} : bi x T m σ R = T m σ fun v σ' => R .next (put m x v) σ' := rfl
@[simp] theorem xW {T : ET} : bC T m σ R = T m σ fun v σ' => R (.ret v) m σ' := rfl
@[simp] theorem yy {b : BT} {T U : ST} : dz b T U m σ R = b m σ fun b σ' => if b then T m σ' R else U m σ' R := rfl
@[simp] theorem xX : aw m σ R = R .next m σ := rfl
@[simp] theorem wY {T : ET} : bO T m σ R = T m σ fun _ σ' => R .next m σ' := rfl
@[simp] theorem xY {g : Tgt} {I : IT} {T : ST} : ch g I T m σ R = I m σ fun items inv σ' => kj g inv T items m σ' R := rfl
@[simp] theorem uI {op : V → V → V → ai → (ai → Prop) → Prop} {T To Ti : ET} : bI op T To Ti m σ R = T m σ fun v σ₁ => To m σ₁ fun o σ₂ => Ti m σ₂ fun i σ₃ => op o i v σ₃ fun σ₄ => R .next m σ₄ := rfl
@[simp] theorem ow {x : String} : ae x m σ Q = atK (m x) fun v => Q v σ := rfl
@[simp] theorem xR {α : Type} {v : α} {F : α → Prop} : atK (some v) F = F v := rfl
@[simp] theorem yk {v : V} : aE v m σ Q = Q v σ := rfl
@[simp] theorem yo {op : O2} {T U : ET} : aB op T U m σ Q = T m σ fun a σ₁ => U m σ₁ fun b σ₂ => op a b σ₂ Q := rfl
@[simp] theorem yH {op : O1} {T : ET} : tB op T m σ Q = T m σ fun a σ₁ => op a σ₁ Q := rfl
@[simp] theorem xH {spec : b7} {L : LT} : az spec L m σ Q = L m σ fun vs σ' => spec vs σ' Q := rfl
@[simp] theorem ox {ty : V → ai → Prop} {op : b7} {T : ET} {L : LT} : br ty op T L m σ Q = T m σ fun o σ₁ => ty o σ₁ ∧ L m σ₁ fun vs σ₂ => op (o :: vs) σ₂ Q := rfl
@[simp] theorem qC : av m σ K = K [] σ := rfl
@[simp] theorem n6 {T : ET} {L : LT} : ah T L m σ K = T m σ fun v σ₁ => L m σ₁ fun vs σ₂ => K (v :: vs) σ₂ := rfl
@[simp] theorem yl {L : LT} : fg L m σ Q = L m σ fun vs σ₁ => vs.length ≤ 1000 ∧ Q (.tup vs) σ₁ := rfl
@[simp] theorem xF {L : LT} : cq L m σ Q = L m σ fun vs σ₁ => vs.length ≤ 1000 ∧ dc vs σ₁ Q := rfl
@[simp] theorem xT {T : BT} : dq T m σ B = T m σ fun b σ' => B (!b) σ' := rfl
@[simp] theorem xU {T U : BT} : ie T U m σ B = T m σ fun b σ' => if b then U m σ' B else B false σ' := rfl
@[simp] theorem yv {T U : BT} : gg T U m σ B = T m σ fun b σ' => if b then B true σ' else U m σ' B := rfl
@[simp] theorem yP : tT m σ B = B true σ := rfl
@[simp] theorem yQ : tF m σ B = B false σ := rfl
@[simp] theorem xG {fv : List String} {g : Tgt} {I : IT} {b : BT} {T : ET} : dm fv g I b T m σ Q = I m σ fun items inv σ' => dn g inv b T (only fv m) items [] σ' fun ys σ'' => dc ys σ'' Q := rfl
@[simp] theorem yE {T : ET} : fR ns T m σ J = T m σ fun v σ' => iT ns v σ' J := rfl
@[simp] theorem wz {L : LT} : cz L m σ J = L m σ fun vs σ' => jC vs σ' J := rfl
@[simp] theorem yn {T : ET} {L U : bg → ai → (Option Int → ai → Prop) → Prop} : ug ns T L U m σ Q = T m σ fun v σ₁ => L m σ₁ fun lo σ₂ => U m σ₂ fun hi σ₃ => uJ ns lo hi v σ₃ Q := rfl
@[simp] theorem xh : sk m σ O = O Option.none σ := rfl
@[simp] theorem xg {T : ET} : nR T m σ O = T m σ fun v σ' => ∃ i, v = .int i ∧ O (some i) σ' := rfl
@[simp] theorem vP {x : String} {v : V} : fV (.name x) v m = some (put m x v) := rfl
@[simp] theorem vQ {x : String} {xs : List String} {v : V} {vs : List V} : aF (x :: xs) (v :: vs) m = aF xs vs (put m x v) := rfl
@[simp] theorem wG : aF [] [] m = m := rfl
@[simp] theorem x7 {x : String} : aN x = Option.none := rfl
end
@[simp] theorem n8 (c : Bool) (F : Bool → Prop) : isB (.bool c) F = F c := rfl
@[simp] theorem wM (T : ET) (m : bg) (σ : ai) (Q : Bool → ai → Prop) : aH T m σ Q = T m σ (fun v σ' => isB v fun b => Q b σ') := rfl
@[simp] theorem yp (T U : ET) (m : bg) (σ : ai) (Q : V → ai → Prop) : lb T U m σ Q = T m σ (fun v σ' => isB v fun b => if b then U m σ' Q else Q (.bool false) σ') := rfl
@[simp] theorem wL (o1 o2 : O2) (T U W : ET) (m : bg) (σ : ai) (Q : Bool → ai → Prop) : nF o1 o2 T U W m σ Q = T m σ (fun a σ₁ => U m σ₁ fun b σ₂ => o1 a b σ₂ fun v σ₃ => isB v fun x => if x then W m σ₃ fun c σ₄ => o2 b c σ₄ fun u σ₅ => isB u fun y => Q y σ₅ else Q false σ₃) := rfl
section
variable {σ : ai} {Q : V → ai → Prop} {ns : List Int}
@[simp] theorem add_int {x y : Int} : fE (.int x) (.int y) σ Q = Q (.int (x + y)) σ := rfl
@[simp] theorem yr {x y : Str} : fE (.str x) (.str y) σ Q = (x.length + y.length ≤ 16777216 ∧ Q (.str (x ++ y)) σ) := rfl
@[simp] theorem sub_int {x y : Int} : jZ (.int x) (.int y) σ Q = Q (.int (x - y)) σ := rfl
@[simp] theorem mul_int {x y : Int} : sq (.int x) (.int y) σ Q = ((pc x ∨ pc y) ∧ Q (.int (x * y)) σ) := rfl
@[simp] theorem x8 {x y : Int} : dM (.int x) (.int y) σ Q = (0 < y ∧ Q (.int (x % y)) σ) := rfl
@[simp] theorem yq {x y : Int} : lq (.int x) (.int y) σ Q = ((0 < y ∧ y < 1073741824) ∧ Q (.int (x / y)) σ) := rfl
@[simp] theorem lt_int {x y : Int} : nS (.int x) (.int y) σ Q = Q (.bool (decide (x < y))) σ := rfl
@[simp] theorem le_int {x y : Int} : ri (.int x) (.int y) σ Q = Q (.bool (decide (x ≤ y))) σ := rfl
@[simp] theorem gt_int {x y : Int} : sr (.int x) (.int y) σ Q = Q (.bool (decide (y < x))) σ := rfl
@[simp] theorem neg_int {x : Int} : io (.int x) σ Q = Q (.int (-x)) σ := rfl
@[simp] theorem eq_int {x y : Int} : bR (.int x) (.int y) σ Q = Q (.bool (decide (x = y))) σ := rfl
@[simp] theorem eq_str {x y : Str} : bR (.str x) (.str y) σ Q = Q (.bool (decide (x = y))) σ := rfl
@[simp] theorem eq_bool {x y : Bool} : bR (.bool x) (.bool y) σ Q = Q (.bool (x == y)) σ := rfl
@[simp] theorem yY : bR .none .none σ Q = Q (.bool true) σ := rfl
@[simp] theorem yX {y : Str} : bR .none (.str y) σ Q = Q (.bool false) σ := rfl
@[simp] theorem yW {y : Str} : bR (.str y) .none σ Q = Q (.bool false) σ := rfl
@[simp] theorem ne_int {x y : Int} : dv (.int x) (.int y) σ Q = Q (.bool (!decide (x = y))) σ := rfl
@[simp] theorem ne_str {x y : Str} : dv (.str x) (.str y) σ Q = Q (.bool (!decide (x = y))) σ := rfl
@[simp] theorem ne_bool {x y : Bool} : dv (.bool x) (.bool y) σ Q = Q (.bool (!(x == y))) σ := rfl
@[simp] theorem yU : dv .none .none σ Q = Q (.bool false) σ := rfl
@[simp] theorem yT {y : Str} : dv .none (.str y) σ Q = Q (.bool true) σ := rfl
@[simp] theorem yS {y : Str} : dv (.str y) .none σ Q = Q (.bool true) σ := rfl
@[simp] theorem wq {x y : Str} : j0 (.str y) (.str x) σ Q = Q (.bool (!Txt.contains x y)) σ := rfl
@[simp] theorem len_str {x : Str} : bh ns [.str x] σ Q = (x.length ≤ 16777216 ∧ Q (.int x.length) σ) := rfl
@[simp] theorem vA : bh ns [.script] σ Q = Q (.int ns.length) σ := rfl
@[simp] theorem ye {vs : List V} : bh ns [.tup vs] σ Q = (vs.length ≤ 16777216 ∧ Q (.int vs.length) σ) := rfl
theorem aV {a : Addr} {xs : List V} (h : σ a = some (.list xs)) : bh ns [.ref a] σ Q = Q (.int xs.length) σ := by show pP σ Q (σ a) = _; rw [h]; rfl
@[simp] theorem x9 {x y : Int} : nJ [.int x, .int y] σ Q = Q (.int (min x y)) σ := rfl
@[simp] theorem yd {x y : Int} : nK [.int x, .int y] σ Q = Q (.int (max x y)) σ := rfl
@[simp] theorem str_int {i : Int} : ja [.int i] σ Q = (i.natAbs.log2 < 1920 ∧ Q (.str (Str.ofString (toString i))) σ) := rfl
@[simp] theorem uV {x y : Str} : ig [.str x, .str y] σ Q = Q (.bool (Txt.startswith x y)) σ := rfl
@[simp] theorem wj {x y : Str} : ii [.str x, .str y] σ Q = ((y.length = 1 ∧ x.length ≤ 1048576) ∧ dc ((Txt.split x y).map .str) σ Q) := rfl
theorem n7 {a : Addr} {xs : List V} (h : σ a = some (.list xs)) : cn [.ref a, .ty "list"] σ Q = Q (.bool true) σ := by
 simp [cn, onVT, on2, on1, isT, Mine.uK, h]
@[simp] theorem xy {b : Bool} : cn [.bool b, .ty "bool"] σ Q = Q (.bool true) σ := by simp [cn, onVT, on2, on1, isT, Mine.uK]
@[simp] theorem yg {b : Str} : cn [.str b, .ty "str"] σ Q = Q (.bool true) σ := by simp [cn, onVT, on2, on1, isT, Mine.uK]
@[simp] theorem yh {b : Int} : cn [.int b, .ty "int"] σ Q = Q (.bool true) σ := by simp [cn, onVT, on2, on1, isT, Mine.uK]
@[simp] theorem yf {vs : List V} : cn [.tup vs, .ty "tuple"] σ Q = Q (.bool true) σ := by simp [cn, onVT, on2, on1, isT, Mine.uK]
@[simp] theorem wh {x : Str} : hZ (.str x) σ = True := rfl
theorem bZ {a : Addr} {xs : List V} (h : σ a = some (.list xs)) : bN (.ref a) σ = True := by simp [bN, h]
@[simp] theorem x5 {n : Int} {R : List V → (ai → Prop) → ai → Prop} : jC [.int n] σ R = ((-(2 ^ 62) ≤ n ∧ n < 2 ^ 62) ∧ R (cK 0 n.toNat) (fun _ => True) σ) := rfl
@[simp] theorem xZ {a b : Int} {R : List V → (ai → Prop) → ai → Prop} : jC [.int a, .int b] σ R = ((-(2 ^ 62) ≤ a ∧ a < 2 ^ 62 ∧ -(2 ^ 62) ≤ b ∧ b < 2 ^ 62) ∧ R (cK a (b - a).toNat) (fun _ => True) σ) := rfl
@[simp] theorem xv {x : Str} {R : List V → (ai → Prop) → ai → Prop} : iT ns (.str x) σ R = R (gE x) (fun _ => True) σ := rfl
theorem bb {a : Addr} {xs : List V} (h : σ a = some (.list xs)) {R : List V → (ai → Prop) → ai → Prop} : iT ns (.ref a) σ R = R xs (fun σ => σ a = some (.list xs)) σ := by show jI a σ R (σ a) = _; rw [h]; rfl
theorem qF {i : Int} {n : Nat} (h0 : 0 ≤ i) (h : i.toNat < n) : nw i n = some i.toNat := by unfold nw; rw [if_pos h0, if_pos (sH h0 h)]
theorem bw {a : Addr} {xs : List V} {i : Int} {v : V} (h : σ a = some (.list xs)) (h0 : 0 ≤ i) (hv : xs[i.toNat]? = some v) (q : Q v σ) : aK ns (.ref a) (.int i) σ Q := by
 refine ⟨xs, i.toNat, v, h, ?_, hv, q⟩
 exact qF h0 (List.getElem?_eq_some_iff.mp hv).1
theorem iU {a : Addr} {xs : List V} {v : V} (h : σ a = some (.list (xs ++ [v]))) (q : Q v σ) : aK ns (.ref a) (.int (-1)) σ Q := by
 refine ⟨xs ++ [v], xs.length, v, h, ?_, by simp, q⟩
 unfold nw
 rw [if_neg (by decide), if_pos (by simp; omega)]
 simp
 omega
theorem q9 {a : Addr} {xs : List V} {i : Int} {v : V} {R : ai → Prop} (h : σ a = some (.list xs)) (h0 : 0 ≤ i) (hi : i.toNat < xs.length) (q : R (aZ σ a (.list (xs.set i.toNat v)))) : pF (.ref a) (.int i) v σ R := by
 exact ⟨xs, i.toNat, h, qF h0 hi, q⟩
theorem cF {a : Addr} {xs : List V} {v : V} (h : σ a = some (.list xs)) (hz : xs.length < 16777216) (q : Q .none (aZ σ a (.list (xs ++ [v])))) : bq [.ref a, v] σ Q := ⟨xs, h, hz, q⟩
theorem rH {k : Int} (h0 : 0 ≤ k) (h : k < ns.length) (q : Q (.int (cell ns k)) σ) : aK ns .script (.int k) σ Q := by
 refine ⟨k.toNat, ns.getD k.toNat 0, h0, ?_, ?_, q⟩
 ·unfold nw; rw [if_pos h0, if_pos h]
 ·rw [List.getD_eq_getElem?_getD]
  cases e : ns[k.toNat]? with
  | none => rw [List.getElem?_eq_none_iff] at e; exact absurd (ei h0 h) (Nat.not_lt.mpr e)
  | some n => rfl
theorem tf {k : Int} (h0 : 0 ≤ k) (h : ¬ k < ns.length) : cell ns k = 0 := by
 unfold cell
 rw [List.getD_eq_getElem?_getD, List.getElem?_eq_none (aD fun g => h (sH h0 g))]; rfl
theorem oG {n : Int} {k : Nat} (h0 : 0 ≤ n) : clipAt k n = min n.toNat k := by
 unfold clipAt
 rw [if_neg (Int.not_lt.mpr h0)]
 obtain ⟨m, rfl⟩ := Int.eq_ofNat_of_zero_le h0
 by_cases h : m ≤ k
 ·rw [Int.min_eq_left (Int.ofNat_le.mpr h), Int.max_eq_right (Int.natCast_nonneg _), Int.toNat_natCast, Nat.min_eq_left h]
 ·have h' : k ≤ m := Nat.le_of_not_le h
  rw [Int.min_eq_right (Int.ofNat_le.mpr h'), Int.max_eq_right (Int.natCast_nonneg _), Int.toNat_natCast, Int.toNat_natCast, Nat.min_eq_right h']
end
end Mine
end
noncomputable section
namespace Mine
open PySem PySem.W PyProof.Rows PySem.Calls
abbrev cl (x : Str) : List Nat := x.cps.toList
theorem te {x y : Str} (h : cl x = cl y) : x = y := by
 cases x; cases y; simp [cl] at h; rw [h]
theorem iZ (x y : Str) : cl (x ++ y) = cl x ++ cl y := by
 show (x.cps ++ y.cps).toList = _; simp
theorem gX (x : Str) : x.length = (cl x).length := by simp [Str.length]
noncomputable def jn (c : Nat) : List (List Nat) → List Nat
 | [] => []
 | [x] => x
 | x :: y :: r => x ++ c :: jn c (y :: r)
theorem mR (c : Nat) : ∀ xs : List Str, cl (Str.join ⟨#[c]⟩ xs) = jn c (xs.map cl)
 | [] => rfl
 | [x] => rfl
 | x :: y :: r => by
  have ih := mR c (y :: r)
  simp only [List.map_cons] at ih
  simp only [List.map_cons, jn, Str.join, iZ, ih]
  rw [List.append_assoc]; rfl
noncomputable def wf (c : Nat) (xs : List (List Nat)) : Prop := ∀ x ∈ xs, c ∉ x
theorem s8 {c : Nat} : ∀ {x y a b : List Nat}, c ∉ x → c ∉ y → x ++ c :: a = y ++ c :: b → x = y ∧ a = b
 | [], [], a, b, _, _, h => by simp at h; exact ⟨rfl, h⟩
 | [], d :: y, a, b, _, hy, h => by simp at h; exact absurd (h.1 ▸ List.mem_cons_self ..) hy
 | d :: x, [], a, b, hx, _, h => by simp at h; exact absurd (h.1 ▸ List.mem_cons_self ..) hx
 | d :: x, e :: y, a, b, hx, hy, h => by
  simp at h hx hy
  obtain ⟨rfl, h⟩ := h
  obtain ⟨rfl, rfl⟩ := s8 hx.2 hy.2 h
  exact ⟨rfl, rfl⟩
theorem sP {c : Nat} : ∀ {xs ys : List (List Nat)}, wf c xs → wf c ys → xs ≠ [] → ys ≠ [] → jn c xs = jn c ys → xs = ys
 | [], _, _, _, h, _, _ => absurd rfl h
 | _, [], _, _, _, h, _ => absurd rfl h
 | [x], [y], _, _, _, _, e => by simp [jn] at e; rw [e]
 | [x], y :: z :: r, fx, _, _, _, e => by
  simp only [jn] at e
  exact absurd (by rw [e]; simp) (fx x (.head _))
 | x :: z :: r, [y], _, fy, _, _, e => by
  simp only [jn] at e
  exact absurd (by rw [← e]; simp) (fy y (.head _))
 | x :: z :: r, y :: u :: q, fx, fy, _, _, e => by
  simp only [jn] at e
  obtain ⟨rfl, e'⟩ := s8 (fx x (.head _)) (fy y (.head _)) e
  rw [sP (fun a h => fx a (.tail _ h)) (fun a h => fy a (.tail _ h)) (by simp) (by simp) e']
noncomputable def Fr (x : Str) : Prop := 47 ∉ cl x
theorem qp : Str.ofString "/" = ⟨#[47]⟩ := by decide +kernel
theorem oj {xs : List Str} (h : ∀ x ∈ xs, Fr x) : wf 47 (xs.map cl) := fun a ha => by
 obtain ⟨x, hx, rfl⟩ := List.mem_map.mp ha; exact h x hx
theorem j9 : ∀ {xs ys : List Str}, xs.map cl = ys.map cl → xs = ys
 | [], [], _ => rfl
 | [], _ :: _, h => by simp at h
 | _ :: _, [], h => by simp at h
 | x :: xs, y :: ys, h => by simp only [List.map_cons, List.cons.injEq] at h; rw [te h.1, j9 h.2]
theorem sO {xs ys : List Str} (fx : ∀ x ∈ xs, Fr x) (fy : ∀ y ∈ ys, Fr y) (nx : xs ≠ []) (ny : ys ≠ []) (h : Str.join (Str.ofString "/") xs = Str.join (Str.ofString "/") ys) : xs = ys := by
 refine j9 (sP (oj fx) (oj fy) (by simpa using nx) (by simpa using ny) ?_)
 rw [← mR, ← mR, ← qp, h]
theorem pC {xs : List Str} (fx : ∀ x ∈ xs, Fr x) (nx : xs ≠ []) : Txt.split (Str.join (Str.ofString "/") xs) (Str.ofString "/") = xs := by
 refine sO ?_ fx ?_ nx (StrLaws.join_split _ _)
 ·intro y hy
  rw [qp] at hy
  exact StrLaws.split_free _ 47 y hy
 ·intro e
  have := PyProof.Rows.split_pos (Str.join (Str.ofString "/") xs) (Str.ofString "/")
  rw [e] at this; simp at this
theorem pA (x y : Str) : Txt.startswith x y = true ↔ cl y <+: cl x := by
 unfold Txt.startswith
 rw [StrLaws.subAt_eq, gX, gX, List.prefix_iff_eq_take]
 simp
 constructor
 ·rintro ⟨_, h⟩; exact h.symm
 ·intro h; refine ⟨?_, h.symm⟩
  have := congrArg List.length h
  simp at this
  omega
theorem l7 : (Str.ofString "/").length = 1 := by rw [qp]; rfl
end Mine
end
noncomputable section
namespace Mine
open PySem PySem.W PyProof.Rows PySem.Calls
noncomputable def GStr (C : Cx) (x : String) (v : Str) : Prop := ∃ t, C.mg (Str.ofString x) = some (.str v t)
noncomputable def GInt (C : Cx) (x : String) (v : Int) : Prop := ∃ t, C.mg (Str.ofString x) = some (.int v t)
section
variable {C : Cx} {p : Program} {sc : Scope} {k : Nat}
theorem uA (O : C.Ok) {x : String} {pos : Pos} {v : Str} (h : sc.names.lookup (Str.ofString x) = some .globalImplicit) (hg : GStr C x v) (hd : (Str.ofString x == ("__debug__" : Str)) = false) : HE C sc k (.Name (Str.ofString x) pos) (aE (.str v)) := by
 obtain ⟨t, e⟩ := hg
 exact qT O h e (fun _ => .str v t) hd
theorem qU (O : C.Ok) {x : String} {pos : Pos} {v : Int} (h : sc.names.lookup (Str.ofString x) = some .globalImplicit) (hg : GInt C x v) (hd : (Str.ofString x == ("__debug__" : Str)) = false) : HE C sc k (.Name (Str.ofString x) pos) (aE (.int v)) := by
 obtain ⟨t, e⟩ := hg
 exact qT O h e (fun _ => .int v t) hd
theorem GStr.of {loose : List Str} {mean : ExcName → Option Value} (T : Top p loose mean C.mg C.mb C.hB) {x : String} {v : Str} (h : valOf p (Str.ofString x) = some (.str v)) : GStr C x v := by
 obtain ⟨w, h1, h2⟩ := T.const _ _ h
 cases h2 C.hB with
 | str _ t => exact ⟨t, h1⟩
theorem GInt.of {loose : List Str} {mean : ExcName → Option Value} (T : Top p loose mean C.mg C.mb C.hB) {x : String} {v : Int} (h : valOf p (Str.ofString x) = some (.int v)) : GInt C x v := by
 obtain ⟨w, h1, h2⟩ := T.const _ _ h
 cases h2 C.hB with
 | int _ t => exact ⟨t, h1⟩
end
end Mine
end
noncomputable section
namespace Mine
open PySem PySem.W PyProof.Rows PySem.Calls
noncomputable def cf {K : Type} [DecidableEq K] (kvs : List (K × V)) (k : K) (v : V) : List (K × V) :=
 if kvs.any (fun kv => kv.1 = k) then kvs.map (fun kv => if kv.1 = k then (kv.1, v) else kv) else kvs ++ [(k, v)]
noncomputable def fG {K : Type} [DecidableEq K] (kvs : List (K × V)) (k : K) : Option V := (kvs.find? fun kv => kv.1 = k).map (·.2)
noncomputable def qX {K : Type} [DecidableEq K] (kvs : List (K × V)) (k : K) : List (K × V) := kvs.filter fun kv => decide (kv.1 ≠ k)
section
variable {aS : Addr} {h : Heap}
variable {K : Type} [DecidableEq K] {a a' : List (K × V)} {b b' : List (K × Value)} {k : K}
theorem PRel.any (k : K) (x : PRel aS h a b) : (a.any fun kv => kv.1 = k) = (b.any fun kv => kv.1 = k) :=
 x.ind (P := fun a b => (a.any fun kv => kv.1 = k) = (b.any fun kv => kv.1 = k)) rfl fun _ _ _ _ _ _ _ ih => by simp only [List.any_cons, ih]
theorem PRel.append (x : PRel aS h a b) (y : PRel aS h a' b') : PRel aS h (a ++ a') (b ++ b') :=
 x.ind (P := fun a b => PRel aS h (a ++ a') (b ++ b')) y fun _ _ _ _ _ v _ ih => by rw [List.cons_append, List.cons_append]; exact ⟨rfl, v, ih⟩
theorem PRel.mapSet {v : V} {w : Value} (hv : VRel aS h v w) (x : PRel aS h a b) : PRel aS h (a.map fun kv => if kv.1 = k then (kv.1, v) else kv) (b.map fun kv => if kv.1 = k then (kv.1, w) else kv) :=
 x.ind (P := fun a b => PRel aS h (a.map fun kv => if kv.1 = k then (kv.1, v) else kv) (b.map fun kv => if kv.1 = k then (kv.1, w) else kv)) trivial fun x _ _ _ _ q _ ih => by
  rw [List.map_cons, List.map_cons]
  by_cases c : x = k
  ·rw [if_pos c, if_pos c]; exact ⟨rfl, hv, ih⟩
  ·rw [if_neg c, if_neg c]; exact ⟨rfl, q, ih⟩
theorem PRel.stored {v : V} {w : Value} (x : PRel aS h a b) (hv : VRel aS h v w) : PRel aS h (cf a k v) (PySem.stored b k w) := by
 unfold cf PySem.stored
 rw [x.any k]
 split
 ·exact x.mapSet hv
 ·exact x.append ⟨rfl, hv, trivial⟩
theorem PRel.find (x : PRel aS h a b) : ∀ {v : V}, fG a k = some v → ∃ w, valueAt b k = some w ∧ VRel aS h v w :=
 x.ind (P := fun a b => ∀ {v : V}, fG a k = some v → ∃ w, valueAt b k = some w ∧ VRel aS h v w) (fun e => by cases e) fun x _ z _ _ q _ ih v hv => by
  unfold fG at hv
  unfold valueAt
  by_cases c : x = k
  ·rw [List.find?_cons_of_pos (by simpa using c)] at hv
   rw [List.find?_cons_of_pos (by simpa using c)]
   cases hv; exact ⟨z, rfl, q⟩
  ·rw [List.find?_cons_of_neg (by simpa using c)] at hv
   rw [List.find?_cons_of_neg (by simpa using c)]
   exact ih hv
theorem PRel.none (x : PRel aS h a b) : (fG a k).isSome = (valueAt b k).isSome :=
 x.ind (P := fun a b => (fG a k).isSome = (valueAt b k).isSome) rfl fun x _ _ _ _ _ _ ih => by
  unfold fG valueAt
  by_cases c : x = k
  ·rw [List.find?_cons_of_pos (by simpa using c), List.find?_cons_of_pos (by simpa using c)]; rfl
  ·rw [List.find?_cons_of_neg (by simpa using c), List.find?_cons_of_neg (by simpa using c)]
   exact ih
theorem PRel.without (x : PRel aS h a b) : PRel aS h (qX a k) (PySem.without b k) :=
 x.ind (P := fun a b => PRel aS h (qX a k) (PySem.without b k)) trivial fun x _ _ _ _ q _ ih => by
  unfold qX PySem.without at *
  by_cases c : x = k
  ·rw [List.filter_cons_of_neg (by simpa using c), List.filter_cons_of_neg (by simpa using c)]; exact ih
  ·rw [List.filter_cons_of_pos (by simpa using c), List.filter_cons_of_pos (by simpa using c)]; exact ⟨rfl, q, ih⟩
end
section
variable {C : Cx} {p : Program} {sc : Scope} {k : Nat}
theorem iS (x : Str) (t : Tok) : (strKind C.prog C.w).is x (.str x t) = true := by
 show Value.isStrOf x (.str x t) = true
 simp [Value.isStrOf]
noncomputable def t0 (kvs : List (Str × V)) (σ : ai) (Q : V → ai → Prop) : Prop := ∀ a ep, σ a = Option.none → Q (.ref a) (aZ σ a (.dict kvs ep))
noncomputable def gV : ET := fun _ σ Q => t0 [] σ Q
theorem gf {pos : Pos} : HE C sc k (.Dict [] [] pos) gV := by
 refine ⟨?_⟩; intro env A s m σ Q P E en ao R F q hP
 have hn := bV s.heap
 obtain ⟨ep, hat⟩ := (Heap.DictOf.new (knd := strKind C.prog C.w) s.heap).dictAt
 refine wpAny_Dict_empty (hP (.ref s.heap.objs.size) (.ref s.heap.objs.size) (aZ σ s.heap.objs.size (.dict [] ep)) _ (.ref _) ?_ .addPush (q _ ep (R.freshNone hn)))
 have := R.add (tk := s.toks) (a := s.heap.objs.size) (o := .dict [] ep) aX hn (h' := s.heap.push { cls := .type "dict", data := .dict #[] }) ⟨by simp, [], hat, trivial⟩
 exact this
noncomputable def kZ : V → V → V → ai → (ai → Prop) → Prop := fun o i v σ Q => isR o fun a => isS i fun k => ∃ kvs ep, σ a = some (.dict kvs ep) ∧ kvs.length < 16777216 ∧ ∀ ep', Q (aZ σ a (.dict (cf kvs k v) ep'))
theorem lB {h : Heap} {a : Addr} {kws : List (Str × Value)} {ep : Nat} (x : h.DictAt (strKind C.prog C.w) a kws ep) : ∀ o, h.get? a = some o → ¬ i7 o := by
 intro o ho
 obtain ⟨o', es, ho', hc, hd, _⟩ := x
 rw [ho] at ho'; cases ho'
 simp [i7, hd]
theorem nB (kvs : List (Str × V)) (x : Str) (v : V) : (cf kvs x v).length ≤ kvs.length + 1 := by
 unfold cf; split <;> simp
theorem iq : qO C k kZ := by
 intro A s σ o i v wo wi w Q P E ao R vo vi vv q hP
 replace q := isR.elim q
 obtain ⟨a, rfl, q⟩ := q
 replace q := isS.elim q
 obtain ⟨x, rfl, q⟩ := q
 ·cases vo; cases vi
  obtain ⟨kvs, ep, hx, hz, q⟩ := q
  obtain ⟨_, kws, h1, h2⟩ := R.view _ _ hx
  have hl := h2.length
  refine wpAny_setItem_pairs (knd := strKind C.prog C.w) (iS x _) h1.dictOf (fun h' hd' hs' => ?_) (by rw [sizeLine_eq, ← hl]; omega)
  obtain ⟨ep', hat⟩ := hd'.dictAt
  have kt : a6 s.heap h' := fun b o eb ht => hs'.extBut b o (by rintro rfl; exact lB h1 o eb ht) eb
  have vl := nB kvs x v
  exact hP (aZ σ a (.dict (cf kvs x v) ep')) _ (R.change (tk := s.toks + 1) hx hs' ⟨by omega, _, hat, (h2.stored vv).keep kt⟩) (.change hx hs') (q ep')
noncomputable def qw : O2 := fun i o σ Q => isS i fun x => isR o fun a => ∃ kvs ep, σ a = some (.dict kvs ep) ∧ Q (.bool (fG kvs x).isSome) σ
theorem pM (O : C.Ok) : gQ C k (compareOp .In) qw := by
 intro A s σ a b wa wb Q P E ao R va vb q hP
 replace q := isS.elim q
 obtain ⟨x, rfl, q⟩ := q
 replace q := isR.elim q
 obtain ⟨a, rfl, q⟩ := q
 ·cases va; cases vb
  obtain ⟨kvs, ep, hx, q⟩ := q
  obtain ⟨_, kws, h1, h2⟩ := R.view _ _ hx
  refine wpAny_in_of (knd := strKind C.prog C.w) (iS x _) (O.noMods (R.apart a (by rw [hx]; simp))) h1.dictOf.mapOf ?_
  rw [← h2.none]
  exact hP _ _ σ _ (.bool _) (R.tok _) Step.refl q
noncomputable def jD : O2 := fun o i σ Q => isR o fun a => isS i fun x => ∃ kvs ep v, σ a = some (.dict kvs ep) ∧ fG kvs x = some v ∧ Q v σ
noncomputable def onO (o : Option AObj) (D : List (Str × V) → Prop) (L : List V → Prop) : Prop := match o with | some (.dict kvs _) => D kvs | some (.list xs) => L xs | _ => False
theorem onO.elim {o : Option AObj} {D : List (Str × V) → Prop} {L : List V → Prop} (h : onO o D L) : (∃ kvs ep, o = some (.dict kvs ep) ∧ D kvs) ∨ ∃ xs, o = some (.list xs) ∧ L xs := by
 cases o with
 | none => exact False.elim h
 | some o => cases o <;> first | exact .inl ⟨_, _, rfl, h⟩ | exact .inr ⟨_, rfl, h⟩ | exact False.elim h
theorem lw {aS : Addr} {h : Heap} : ∀ (vs : List V) (ws : List Value), ws.length = vs.length → (∀ (j : Nat) (v : V) w, vs[j]? = some v → ws[j]? = some w → VRel aS h v w) → VRels aS h vs ws
 | [], [], _, _ => .nil
 | [], _ :: _, h, _ => by simp at h
 | _ :: _, [], h, _ => by simp at h
 | v :: vs, w :: ws, hl, hj => .cons (hj 0 v w rfl rfl) (lw vs ws (by simpa using hl) fun j v w e1 e2 => hj (j + 1) v w (by simpa using e1) (by simpa using e2))
end
end Mine
end
noncomputable section
namespace Mine
open PySem PySem.W PyProof.Rows PySem.Calls
section
variable {C : Cx} {p : Program} {sc : Scope} {k : Nat}
theorem sx {slice : Expr} (hsl : ff slice = false) : gQ C k (fun o i => getitemInPython o >>= fun b => subscripted slice b o i) jD := by
 intro A s σ a b wa wb Q P E ao R va vb q hP
 replace q := isR.elim q
 obtain ⟨a, rfl, q⟩ := q
 replace q := isS.elim q
 obtain ⟨x, rfl, q⟩ := q
 ·cases va; cases vb
  obtain ⟨kvs, ep, v, hx, hv, q⟩ := q
  obtain ⟨_, kws, h1, h2⟩ := R.view _ _ hx
  obtain ⟨w, e1, e2⟩ := h2.find hv
  exact dG hsl h1.dictOf.typeIs slot_dict_getitem.lookup (wpAny_getItem_of (knd := strKind C.prog C.w) (iS x _) h1.dictOf.mapOf e1 (hP _ _ σ _ e2 (R.tok _) Step.refl q))
theorem pf {value slice : Expr} {pos : Pos} {T U : ET} (hv : HE C sc k value T) (hi : HE C sc k slice U) (hs : ff slice = false) : HE C sc k (.Subscript value slice pos) (aB jD T U) :=
 qf hv hi (sx hs)
noncomputable def cy : V → ai → Prop
 | .ref a, σ => ∃ kvs ep, σ a = some (.dict kvs ep)
 | _, _ => False
theorem lj : uu C "dict" cy := by
 intro o wo σ s R hv h
 cases hv <;> first | exact h.elim | skip
 obtain ⟨kvs, ep, hx⟩ := h
 obtain ⟨_, ws, h1, h2⟩ := R.view _ _ hx
 exact ⟨h1.dictOf.typeIs, h1.dictOf.mapOf.noDict⟩
theorem rT (kvs : List (Str × V)) (x : Str) : (qX kvs x).length ≤ kvs.length := List.length_filter_le _ _
noncomputable def qo : b7 := fun vs σ Q => onRS vs fun a x => ∃ kvs ep v, σ a = some (.dict kvs ep) ∧ fG kvs x = some v ∧ ∀ ep', Q v (aZ σ a (.dict (qX kvs x) ep'))
theorem vj : nz C k (fun ws => PySem.call (.builtin "dict.pop") ws) qo := by
 intro A s σ vs ws Q P E ao R hv q hP
 replace q := onRS.elim q
 obtain ⟨a, x, rfl, q⟩ := q
 ·obtain ⟨wa, wb, rfl, h1, h2⟩ := hv.inv2
  cases h1; cases h2
  obtain ⟨kvs, ep, v, hx, hv, q⟩ := q
  obtain ⟨hz, kws, h1, h2⟩ := R.view _ _ hx
  obtain ⟨w, e1, e2⟩ := h2.find hv
  have hl := h2.length
  refine call_meetsIn F.slot_dict_pop h1.dictOf.typeIs F.entry_dict_pop (F.args_dict_pop_2 _ _) (meets_dict_pop_there (strKind C.prog C.w) a (iS x _) [] (.inl rfl) rfl) ⟨kws, w, h1.dictOf, by rw [sizeLine_eq]; omega, e1, fun h' hd' hs' => ?_⟩
  obtain ⟨ep', hat⟩ := hd'.dictAt
  have kt : a6 s.heap h' := fun b o eb ht => hs'.extBut b o (by rintro rfl; exact lB h1 o eb ht) eb
  have vl := rT kvs x
  exact hP v w (aZ σ a (.dict (qX kvs x) ep')) _ (e2.keep kt) (R.change (tk := s.toks + 1) hx hs' ⟨by omega, _, hat, h2.without.keep kt⟩) (.change hx hs') (q ep')
theorem qQ {o : Expr} {apos pos : Pos} {es : List Expr} {To : ET} {L : LT} (ho : HE C sc k o To) (hl : HL C sc k es L) (hp : aO es = true)
  (hbase : ∀ env, attributeBase o (Str.ofString "pop") env (eval o env) = eval o env) (hline : (apos.endLine == pos.line) = true) (hfew : es.length < 30) : HE C sc k (.Call (.Attribute o (Str.ofString "pop") apos) es [] pos) (br cy qo To L) :=
 fz lj F.plainAttrs_dict F.slot_dict_pop F.type_dict_pop vj ho hl hp hbase hline hfew
end
end Mine
end
noncomputable section
namespace Mine
open PySem PySem.W PyProof.Rows PySem.Calls
section
variable {σ : ai} {Q : V → ai → Prop} {ns : List Int}
@[simp] theorem wF {m : bg} : gV m σ Q = t0 [] σ Q := rfl
theorem jU {a : Addr} {kvs : List (Str × V)} {ep : Nat} {x : Str} {v : V} {R : ai → Prop} (h : σ a = some (.dict kvs ep)) (hz : kvs.length < 16777216) (q : ∀ ep', R (aZ σ a (.dict (cf kvs x v) ep'))) : kZ (.ref a) (.str x) v σ R := ⟨kvs, ep, h, hz, q⟩
theorem pv {a : Addr} {kvs : List (Str × V)} {ep : Nat} (h : σ a = some (.dict kvs ep)) : cy (.ref a) σ = True := by simp [cy, h]
theorem dF {a : Addr} {kvs : List (Str × V)} {ep : Nat} (h : σ a = some (.dict kvs ep)) {R : List V → (ai → Prop) → ai → Prop} : iT ns (.ref a) σ R = R (kvs.map fun q => .str q.1) (fun σ => σ a = some (.dict kvs ep)) σ := by show jI a σ R (σ a) = _; rw [h]; rfl
end
theorem i8 (kvs : List (Str × V)) (x : Str) : (fG kvs x).isSome = decide (x ∈ kvs.map (·.1)) := by
 unfold fG
 rw [Option.isSome_map, Bool.eq_iff_iff, List.find?_isSome]
 simp
theorem rV {kvs : List (Str × V)} {x : Str} (h : x ∈ kvs.map (·.1)) : ∃ v, fG kvs x = some v ∧ (x, v) ∈ kvs := by
 have := i8 kvs x
 rw [decide_eq_true h] at this
 obtain ⟨v, hv⟩ := Option.isSome_iff_exists.mp this
 refine ⟨v, hv, ?_⟩
 unfold fG at hv
 obtain ⟨⟨k', v'⟩, h1, h2⟩ := Option.map_eq_some_iff.mp hv
 have h3 := List.find?_some h1
 have h4 := List.mem_of_find?_eq_some h1
 simp at h3 h2
 subst h3; subst h2; exact h4
theorem nA {kvs : List (Str × V)} {k : Str} {v : V} {q : Str × V} (h : q ∈ cf kvs k v) : q = (k, v) ∨ q ∈ kvs := by
 unfold cf at h
 split at h
 ·obtain ⟨r, hr, rfl⟩ := List.mem_map.mp h
  by_cases c : r.1 = k
  ·rw [if_pos c, c]; exact .inl rfl
  ·rw [if_neg c]; exact .inr hr
 ·rcases List.mem_append.mp h with h | h
  ·exact .inr h
  ·simp at h; exact .inl h
theorem lT (kvs : List (Str × V)) (k : Str) (v : V) : ∀ x, x ∈ (cf kvs k v).map (·.1) ↔ x = k ∨ x ∈ kvs.map (·.1) := by
 intro x
 unfold cf
 split
 ·rename_i h
  have e : (kvs.map fun kv => if kv.1 = k then (kv.1, v) else kv).map (·.1) = kvs.map (·.1) := by
   rw [List.map_map]; apply List.map_congr_left; intro q _; simp only [Function.comp]; split <;> rfl
  rw [e]
  have hk : k ∈ kvs.map (·.1) := by
   obtain ⟨q, hq, e⟩ := List.any_eq_true.mp h
   exact List.mem_map.mpr ⟨q, hq, by simpa using e⟩
  constructor
  ·exact .inr
  ·rintro (rfl | h)
   ·exact hk
   ·exact h
 ·simp only [List.map_append, List.mem_append, List.map_cons, List.map_nil, List.mem_singleton]
  constructor
  ·rintro (h | h)
   ·exact .inr h
   ·exact .inl h
  ·rintro (h | h)
   ·exact .inr h
   ·exact .inl h
theorem gD {kvs : List (Str × V)} {k : Str} {v : V} (h : (kvs.map (·.1)).Nodup) : ((cf kvs k v).map (·.1)).Nodup := by
 unfold cf
 split
 ·have e : (kvs.map fun kv => if kv.1 = k then (kv.1, v) else kv).map (·.1) = kvs.map (·.1) := by
   rw [List.map_map]; apply List.map_congr_left; intro q _; simp only [Function.comp]; split <;> rfl
  rw [e]; exact h
 ·rename_i hn
  rw [List.map_append, List.nodup_append]
  refine ⟨h, by simp, ?_⟩
  intro a ha b hb
  simp at hb
  subst hb
  rintro rfl
  obtain ⟨q, hq, e⟩ := List.mem_map.mp ha
  exact hn (List.any_eq_true.mpr ⟨q, hq, by simpa using e⟩)
end Mine
end
noncomputable section
namespace Mine
open PySem AutoSeq1 MeetsSeq MeetsSeq2 MeetsSeq3 SeqRoads2
section
variable {C : Cx} {A : Around} {s : Shared}
end
end Mine
end
noncomputable section
namespace Mine
open PySem AutoSeq1 MeetsSeq MeetsSeq2 MeetsSeq3 SeqRoads2
section
variable {C : Cx}
end
end Mine
end
noncomputable section
namespace Mine
open PySem PyProof.Rows
noncomputable def ze : Keyed := (.none, .none)
noncomputable def tk {O : KeyOrd} (key : Keyed → O.α) (xs : Array Keyed) (i : Nat) : O.α := key (xs[i]?.getD ze)
noncomputable def i6 {O : KeyOrd} (key : Keyed → O.α) (xs : Array Keyed) (i j : Nat) : Prop := ∀ p q, i ≤ p → p ≤ q → q < j → O.kle (tk key xs p) (tk key xs q)
noncomputable def wH {O : KeyOrd} (key : Keyed → O.α) (xs : Array Keyed) (i j : Nat) : Prop := ∀ p q, i ≤ p → p ≤ q → q < j → O.kle (tk key xs q) (tk key xs p)
structure SB (kd : SortKind) (a₀ : Array Keyed) (st : SortSt) : Prop where
 perm : (arrOf st).Perm a₀
 kind : kindOf st = kd
 failed : failedOf st = none
structure Kept (lo : Nat) (st st' : SortSt) : Prop where
 pend : pendingOf st' = pendingOf st
 low : ∀ k, k < lo → (arrOf st')[k]? = (arrOf st)[k]?
noncomputable def eV (prog : Program) (w : World) (A : Around) (E : Value → Shared → Prop) (s : Shared) (kd : SortKind) (O : KeyOrd) (key : Keyed → O.α) (a₀ : Array Keyed) : Prop :=
 ∀ x y, x ∈ a₀.toList → y ∈ a₀.toList → ∀ (Q : Option Bool → SortSt → Prop) (st : SortSt), kindOf st = kd →
  Q (some (O.blt (key x) (key y))) st → wpS (model prog w) A E s (lt' x y) Q st
theorem Kept.refl {lo : Nat} {st : SortSt} : Kept lo st st := ⟨rfl, fun _ _ => rfl⟩
theorem Kept.trans {lo : Nat} {a b c : SortSt} (h : Kept lo a b) (k : Kept lo b c) : Kept lo a c :=
 ⟨k.pend.trans h.pend, fun i hi => (k.low i hi).trans (h.low i hi)⟩
section pure
variable {O : KeyOrd} {key : Keyed → O.α} {kd : SortKind} {a₀ : Array Keyed}
theorem SB.size {st : SortSt} (h : SB kd a₀ st) : (arrOf st).size = a₀.size := h.perm.size_eq
theorem SB.setArr {st : SortSt} (h : SB kd a₀ st) {xs : Array Keyed} (hp : xs.Perm (arrOf st)) : SB kd a₀ (setArr st xs) :=
 ⟨hp.trans h.perm, h.kind, h.failed⟩
theorem SB.at {st : SortSt} (h : SB kd a₀ st) {i : Nat} (hi : i < a₀.size) :
  ∃ x, (arrOf st)[i]? = some x ∧ x ∈ a₀.toList ∧ tk key (arrOf st) i = key x := by
 have hi' : i < (arrOf st).size := by rw [h.size]; exact hi
 have e : (arrOf st)[i]? = some (arrOf st)[i] := getElem?_pos _ i hi'
 refine ⟨_, e, (Array.perm_iff_toList_perm.mp h.perm).mem_iff.mp (by simp), ?_⟩
 unfold tk
 rw [e]
 rfl
theorem co {xs ys : Array Keyed} {i j : Nat} (h : xs[i]? = ys[j]?) : tk key xs i = tk key ys j := by unfold tk; rw [h]
theorem qZ {xs : Array Keyed} {src d : Nat} (hs : src < xs.size) (hd : d ≤ src) (k : Nat) :
  tk key (bubble xs src d) k = if k = src - d then tk key xs src else if src - d < k ∧ k ≤ src then tk key xs (k - 1) else tk key xs k := by
 have e := getElem?_bubble hs d hd k
 split
 ·rename_i h; rw [if_pos h] at e; exact co e
 ·rename_i h
  rw [if_neg h] at e
  split
  ·rename_i h2; rw [if_pos h2] at e; exact co e
  ·rename_i h2; rw [if_neg h2] at e; exact co e
theorem iN {xs : Array Keyed} {i j : Nat} (hj : j ≤ xs.size) (k : Nat) :
  tk key (mirror xs i j ((j - i) / 2)) k = if i ≤ k ∧ k < j then tk key xs (i + j - 1 - k) else tk key xs k := by
 have e := getElem?_mirror_all (i := i) hj k
 split
 ·rename_i h; rw [if_pos h] at e; exact co e
 ·rename_i h; rw [if_neg h] at e; exact co e
theorem cg {xs : Array Keyed} {i j : Nat} (hj : j ≤ xs.size) (heq : ∀ k, i ≤ k → k < j → tk key xs k = tk key xs (j - 1)) (k : Nat) :
  tk key (mirror xs i j ((j - i) / 2)) k = tk key xs k := by
 rw [iN hj]
 split
 ·rw [heq _ (by (rename_i zz0; exact aD fun hg => lN [j, i, k, (i + j - 1 - k), (i + j - 1)] 0x14e30a064280263810121861 rfl (zz0).2 (aq (i + j - 1) (k)) (aq (i + j) (1)) hg)) (by (rename_i zz0; exact bP fun hg => lN [j, i, k, (i + j - 1 - k), (i + j - 1)] 0x72048502061418e0098a1 rfl (zz0).1 (ar (aD fun hg => lN [j, i, k, (i + j - 1)] 0xc7184e32140121861 rfl (zz0).2 (aq (i + j) (1)) hg)) (ar (aD fun hg => lN [j, i, k] 0x42121403090c3098a1 rfl (zz0).1 (zz0).2 hg)) hg)), heq k (by (rename_i zz0; exact zz0.1)) (by (rename_i zz0; exact zz0.2))]
 ·rfl
theorem d5 {st : SortSt} {lo i j : Nat} (hj : j ≤ (arrOf st).size) (hi : lo ≤ i) : Kept lo st (setArr st (mirror (arrOf st) i j ((j - i) / 2))) :=
 ⟨rfl, fun k hk => by
  show (mirror (arrOf st) i j ((j - i) / 2))[k]? = _
  rw [getElem?_mirror_all hj, if_neg (by exact fun hg => lN [lo, i, k] 0xc5090c309481 rfl hi hk (hg).1)]⟩
end pure
section walk
variable {prog : Program} {w : World} {A : Around} {E : Value → Shared → Prop} {s : Shared} {kd : SortKind} {O : KeyOrd} {key : Keyed → O.α} {a₀ : Array Keyed}
theorem tI {st : SortSt} {i j : Nat} {Q : Option Bool → SortSt → Prop} (hL : eV prog w A E s kd O key a₀) (hB : SB kd a₀ st) (hi : i < a₀.size) (hj : j < a₀.size)
  (h : Q (some (O.blt (tk key (arrOf st) i) (tk key (arrOf st) j))) st) : wpS (model prog w) A E s (ltAt' i j) Q st := by
 obtain ⟨x, e1, m1, k1⟩ := hB.at (key := key) hi
 obtain ⟨y, e2, m2, k2⟩ := hB.at (key := key) hj
 rw [k1, k2] at h
 rw [ltAt'_eq]
 refine wpS_bind (wpS_get ?_)
 show wpS _ _ _ _ (do let x ← elem' (arrOf st) i; let y ← elem' (arrOf st) j; lt' x y) Q st
 rw [elem'_eq, elem'_eq, e1, e2]
 exact wpS_bind (wpS_pure (wpS_bind (wpS_pure (hL _ _ m1 m2 _ _ hB.kind h))))
theorem fH {β : Type} {st : SortSt} {i j : Nat} {f : Option Bool → StateT SortSt Sem β} {Q : β → SortSt → Prop} (hL : eV prog w A E s kd O key a₀) (hB : SB kd a₀ st) (hi : i < a₀.size) (hj : j < a₀.size)
  (h : wpS (model prog w) A E s (f (some (O.blt (tk key (arrOf st) i) (tk key (arrOf st) j)))) Q st) : wpS (model prog w) A E s (ltAt' i j >>= f) Q st := wpS_bind (tI hL hB hi hj h)
theorem lV {st : SortSt} {i j : Nat} {Q : Unit → SortSt → Prop} (h : Q () (setArr st (mirror (arrOf st) i j ((j - i) / 2)))) :
  wpS (model prog w) A E s (reverseSlice' i j) Q st := by
 rw [reverseSlice'_eq]
 exact wpS_modify h
theorem lX {β γ : Type} {lo hi : Nat} {f : Nat → β → StateT SortSt Sem (ForInStep β)} {k : β → StateT SortSt Sem γ} {c : β} {st : SortSt} {Q : γ → SortSt → Prop} (I : Nat → β → SortSt → Prop) (P : β → SortSt → Prop)
  (hstep : ∀ F, F = f → ∀ i c st, lo ≤ i → i < hi → I i c st → wpS (model prog w) A E s (F i c) (fun r st' => match r with | .done c' => P c' st' | .yield c' => I (i + 1) c' st') st)
  (hend : ∀ c st, I (max lo hi) c st → P c st) (hinit : I lo c st) (hpost : ∀ K, K = k → ∀ c st, P c st → wpS (model prog w) A E s (K c) Q st) : wpS (model prog w) A E s (forIn [lo:hi] c f >>= k) Q st :=
 wpS_bind (wpS_mono (wpS_forRange I (hstep f rfl) hend hinit) (hpost k rfl))
theorem dp {β γ : Type} {lo hi : Nat} {f : Nat → β → StateT SortSt Sem (ForInStep β)} {k : β → StateT SortSt Sem γ} {c : β} {st : SortSt} {Q : γ → SortSt → Prop} (I : Nat → β → SortSt → Prop) (P : β → SortSt → Prop)
  (hstep : ∀ F, F = f → ∀ i c st, I i c st → wpS (model prog w) A E s (F i c) (fun r st' => match r with | .done c' => P c' st' | .yield c' => I (i + 1) c' st') st)
  (hend : ∀ c st, I (max lo hi) c st → P c st) (hinit : I lo c st) (hpost : ∀ K, K = k → ∀ c st, P c st → wpS (model prog w) A E s (K c) Q st) : wpS (model prog w) A E s (forIn [lo:hi] c f >>= k) Q st :=
 lX I P (fun F e i c st _ _ => hstep F e i c st) hend hinit hpost
theorem cI {β : Type} {f : SortSt → StateT SortSt Sem β} {Q : β → SortSt → Prop} {st : SortSt} (h : wpS (model prog w) A E s (f st) Q st) : wpS (model prog w) A E s (get >>= f) Q st := wpS_bind (wpS_get h)
theorem dy {β : Type} {g : SortSt → SortSt} {f : PUnit → StateT SortSt Sem β} {Q : β → SortSt → Prop} {st : SortSt} (h : wpS (model prog w) A E s (f ⟨⟩) Q (g st)) : wpS (model prog w) A E s (modify g >>= f) Q st := wpS_bind (wpS_modify h)
theorem eo {β : Type} {tag : String} {f : Unit → StateT SortSt Sem β} {Q : β → SortSt → Prop} {st : SortSt} (h : wpS (model prog w) A E s (f ()) Q st) : wpS (model prog w) A E s ((liftM (rule tag) : StateT SortSt Sem Unit) >>= f) Q st := wpS_bind (wpS_lift (wpAny_rule ⟨rfl, h⟩))
theorem fJ {α β : Type} {m : StateT SortSt Sem α} {f : α → StateT SortSt Sem β} {Q : β → SortSt → Prop} {st : SortSt} (h : ∀ K, K = f → wpS (model prog w) A E s m (fun a st' => wpS (model prog w) A E s (K a) Q st') st) : wpS (model prog w) A E s (m >>= f) Q st := wpS_bind (h f rfl)
theorem uS {st : SortSt} {lo n ok : Nat} {Q : Bool → SortSt → Prop} (hL : eV prog w A E s kd O key a₀) (hn : lo + n ≤ a₀.size) (hok : ok ≤ n) (hB : SB kd a₀ st)
  (hs : i6 key (arrOf st) lo (lo + ok))
  (h : ∀ st', SB kd a₀ st' → Kept lo st st' → i6 key (arrOf st') lo (lo + n) → Q true st') : wpS (model prog w) A E s (binarySort' lo n ok) Q st := by
 rw [binarySort'_eq]
 refine lX (fun k c st' => c = (none, ()) ∧ SB kd a₀ st' ∧ Kept lo st st' ∧ i6 key (arrOf st') lo (lo + min k n))
  (fun c st' => c = (none, ()) ∧ SB kd a₀ st' ∧ Kept lo st st' ∧ i6 key (arrOf st') lo (lo + n)) ?step ?fin ?init ?post
 case post =>
  rintro K hKK c st' ⟨rfl, hB', hK, hs'⟩
  subst hKK
  exact wpS_pure (h st' hB' hK hs')
 case init =>
  refine ⟨rfl, hB, Kept.refl, fun i j hi hij hj => ?_⟩
  by_cases h1 : ok = 0
  ·have : i = j := by exact Nat.le_antisymm (aD fun hg => lN [i, j] 0x10a309481 rfl hij hg) (aD fun hg => Or.elim (bJ (max ok 1) (n)) (fun hs0 => Or.elim (Mine.j8 (ok) (1)) (fun hs1 => lN [lo, ok, i, j, (min (max ok 1) n), (max ok 1)] 0x1521398614a02009428200e309881 rfl hi hj (Nat.le_of_eq h1) (Nat.min_le_left (max ok 1) (n)) hg hs1) (fun hs1 => lN [lo, i, j, (min (max ok 1) n), (max ok 1)] 0x1085013146141c27200c309481 rfl hi hj (Nat.min_le_left (max ok 1) (n)) hg hs1)) (fun hs0 => Or.elim (Mine.j8 (ok) (1)) (fun hs1 => lN [lo, ok, i, j, (min (max ok 1) n), (max ok 1)] 0x1521398614a02009428200e309881 rfl hi hj (Nat.le_of_eq h1) (Nat.min_le_left (max ok 1) (n)) hg hs1) (fun hs1 => lN [lo, i, j, (min (max ok 1) n), (max ok 1)] 0x1085013146141c27200c309481 rfl hi hj (Nat.min_le_left (max ok 1) (n)) hg hs1)))
   subst this; exact KeyOrd.kle_refl _
  ·exact hs i j hi hij (by exact bP fun hg => Or.elim (Nat.lt_or_gt_of_ne h1) (fun hs0 => lN [ok] 0x9061 rfl hs0) (fun hs0 => Or.elim (Mine.j8 (ok) (1)) (fun hs1 => lN [lo, ok, j, (min (max ok 1) n), (max ok 1)] 0x5404c520028384e401861 rfl hj (Nat.min_le_left (max ok 1) (n)) hg hs1) (fun hs1 => lN [lo, ok, j, (min (max ok 1) n), (max ok 1)] 0x842809401184c520028384e401861 rfl hj (Nat.min_le_left (max ok 1) (n)) hg hs0 hs1)))
 case fin =>
  rintro c st' ⟨hc, hB', hK, hs'⟩
  refine ⟨hc, hB', hK, ?_⟩
  rwa [show min (max (max ok 1) n) n = n by exact Nat.le_antisymm (aD fun hg => lN [n, (min (max (max ok 1) n) n)] 0x1483090a1 rfl (Nat.min_le_right (max (max ok 1) n) (n)) hg) (aD fun hg => Or.elim (bJ (max (max ok 1) n) (n)) (fun hs0 => lN [n, (min (max (max ok 1) n) n), (max (max ok 1) n)] 0xa6090a309881 rfl (Nat.le_max_right (max ok 1) (n)) hg hs0) (fun hs0 => lN [n, (min (max (max ok 1) n) n)] 0x148121461 rfl hg hs0))] at hs'
 case step =>
  rintro F hF k c st' hak hkn ⟨rfl, hB', hK, hs'⟩
  rw [show min k n = k by exact Nat.le_antisymm (aD fun hg => lN [k, (min k n)] 0x1483090a1 rfl (Nat.min_le_left (k) (n)) hg) (aD fun hg => Or.elim (Mine.j8 (ok) (1)) (fun hs0 => Or.elim (bJ (k) (n)) (fun hs1 => lN [k, (min k n)] 0x148121461 rfl hg hs1) (fun hs1 => lN [n, k, (min k n)] 0x18812986121461 rfl hkn hg hs1)) (fun hs0 => Or.elim (bJ (k) (n)) (fun hs1 => lN [k, (min k n)] 0x148121461 rfl hg hs1) (fun hs1 => lN [n, k, (min k n)] 0x18812986121461 rfl hkn hg hs1)))] at hs'
  have hk : lo + k < a₀.size := by exact bP fun hg => lN [lo, n, (a₀.size), k] 0xe40182538c2629001 rfl hn hkn hg
  subst hF
  refine lX (fun x c st'' => st'' = st' ∧ ∃ l r, c = (none, l, r) ∧ l ≤ r ∧ r ≤ k ∧ r - l ≤ k - x ∧
    (∀ i, i < l → O.kle (tk key (arrOf st') (lo + i)) (tk key (arrOf st') (lo + k))) ∧ (∀ i, r ≤ i → i < k → O.klt (tk key (arrOf st') (lo + k)) (tk key (arrOf st') (lo + i))))
   (fun c st'' => st'' = st' ∧ ∃ l r, c = (none, l, r) ∧ l ≤ k ∧
    (∀ i, i < l → O.kle (tk key (arrOf st') (lo + i)) (tk key (arrOf st') (lo + k))) ∧ (∀ i, l ≤ i → i < k → O.klt (tk key (arrOf st') (lo + k)) (tk key (arrOf st') (lo + i)))) ?istep ?ifin ?iinit ?ipost
  case iinit => exact ⟨rfl, 0, k, rfl, by exact Nat.zero_le _, by exact Nat.le_refl _, by exact Nat.le_refl _, fun i hi => by exact False.elim (lN [i] 0x9061 rfl hi), fun i h1 h2 => by exact False.elim (lN [k, i] 0x10a309481 rfl h1 h2)⟩
  case ifin =>
   rintro c st'' ⟨rfl, l, r, rfl, hlr, hrk, hm, hlo, hhi⟩
   have : l = r := by exact Nat.le_antisymm (aD fun hg => lN [l, r] 0x10a309481 rfl hlr hg) (aD fun hg => lN [k, l, r, (r - l), (k - max 0 k)] 0x628c242200129c060a0e1 rfl hm (aq (r) (l)) (ar (aD fun hg => lN [k] 0x21061 rfl hg)) hg)
   subst this
   exact ⟨rfl, l, l, rfl, hrk, hlo, hhi⟩
  case istep =>
   rintro F hF x c st'' _ hxk ⟨rfl, l, r, rfl, hlr, hrk, hm, hlo, hhi⟩
   subst hF
   dsimp only
   by_cases hge : l ≥ r
   ·rw [if_pos hge]
    have : l = r := by exact Nat.le_antisymm hlr hge
    subst this
    exact wpS_pure ⟨rfl, l, l, rfl, hrk, hlo, hhi⟩
   ·rw [if_neg hge]
    have hmid : (l + r) / 2 < r := Nat.div_lt_of_lt_mul (by rw [Nat.two_mul]; exact Nat.add_lt_add_right (Nat.lt_of_not_le hge) r)
    refine fH hL hB' hk (by exact bP fun hg => lN [lo, n, (a₀.size), k, l, r, ((l + r) / 2)] 0x2880309280284209d224a02538c4629002 rfl hn hkn hlr hrk (Mine.gW (l + r) 2) hg) ?_
    cases hless : O.blt (tk key (arrOf st'') (lo + k)) (tk key (arrOf st'') (lo + (l + r) / 2))
    case true =>
     simp only [if_true]
     refine wpS_pure ⟨rfl, l, (l + r) / 2, rfl, by exact aD fun hg => lN [l, r, ((l + r) / 2)] 0x10c310821308402900309481 rfl hlr (Mine.fh (l + r) 2 (by decide)) hg, by exact aD fun hg => lN [k, l, r, ((l + r) / 2)] 0x720c46280e210486118a1 rfl hlr hrk (Mine.gW (l + r) 2) hg, by exact aD fun hg => lN [k, x, l, r, (r - l), (k - x), ((l + r) / 2 - l), (k - (x + 1)), ((l + r) / 2)] 0x29631146b0104c328022152009900384e6030420a50121461 rfl hxk hm (Mine.gW (l + r) 2) (aq (r) (l)) (ar (aD fun hg => lN [k, x] 0x2906121461 rfl hxk hg)) (ar (aD fun hg => lN [l, r, ((l + r) / 2)] 0x10c310821308402900309481 rfl hlr (Mine.fh (l + r) 2 (by decide)) hg)) (aq (k) (x + 1)) hg, hlo, fun i h1 h2 => ?_⟩
     exact KeyOrd.klt_of_klt_of_kle hless (hs' _ _ (by exact Nat.le_add_right _ _) (by exact Nat.add_le_add_left h1 _) (by exact Nat.add_le_add_left h2 _))
    case false =>
     simp only [Bool.false_eq_true, if_false]
     refine wpS_pure ⟨rfl, (l + r) / 2 + 1, r, rfl, hmid, by exact hrk, by exact aD fun hg => Or.elim (Mine.j8 (ok) (1)) (fun hs0 => Or.elim (a8 (r) ((l + r) / 2 + 1)) (fun hs1 => lN [k, x, l, r, (r - l), (k - x), (r - ((l + r) / 2 + 1)), (k - (x + 1)), ((l + r) / 2)] 0x760d40129631146b010442a401320070882160840398030a50121461 rfl hxk hm (Mine.fh (l + r) 2 (by decide)) (aq (r) (l)) (ar (aD fun hg => lN [k, x] 0x2906121461 rfl hxk hg)) (aq (k) (x + 1)) hg (Nat.le_of_eq hs1)) (fun hs1 => lN [k, x, (r - ((l + r) / 2 + 1)), (k - (x + 1))] 0x1304c7184a33808121461 rfl hxk (aq (k) (x + 1)) hg (Nat.le_of_eq hs1))) (fun hs0 => Or.elim (a8 (r) ((l + r) / 2 + 1)) (fun hs1 => lN [k, x, l, r, (r - l), (k - x), (r - ((l + r) / 2 + 1)), (k - (x + 1)), ((l + r) / 2)] 0x760d40129631146b010442a401320070882160840398030a50121461 rfl hxk hm (Mine.fh (l + r) 2 (by decide)) (aq (r) (l)) (ar (aD fun hg => lN [k, x] 0x2906121461 rfl hxk hg)) (aq (k) (x + 1)) hg (Nat.le_of_eq hs1)) (fun hs1 => lN [k, x, (r - ((l + r) / 2 + 1)), (k - (x + 1))] 0x1304c7184a33808121461 rfl hxk (aq (k) (x + 1)) hg (Nat.le_of_eq hs1))), fun i h1 => ?_, hhi⟩
     exact KeyOrd.kle_trans (hs' (lo + i) (lo + (l + r) / 2) (by exact Nat.le_add_right _ _) (by exact aD fun hg => lN [lo, i, ((l + r) / 2)] 0x5200c400c2619461 rfl h1 hg) (Nat.add_lt_add_left (Nat.lt_of_lt_of_le hmid hrk) lo)) (show O.kle _ _ from hless)
  case ipost =>
   rintro K hKK c st'' ⟨rfl, l, r, rfl, hlk, hlo, hhi⟩
   subst hKK
   show wpS _ _ _ _ (do moveDown' (lo + k) (lo + l); pure (ForInStep.yield (none, ()))) _ _
   rw [moveDown'_eq]
   have hks : lo + k < (arrOf st'').size := by rw [hB'.size]; exact hk
   have hd : lo + k - (lo + l) ≤ lo + k := by exact Nat.sub_le _ _
   refine wpS_bind (wpS_modify (wpS_pure ⟨rfl, hB'.setArr (bubble_perm _ _ _), hK.trans ⟨rfl, fun i hi => ?_⟩, ?_⟩))
   ·show (bubble (arrOf st'') (lo + k) (lo + k - (lo + l)))[i]? = _
    rw [getElem?_bubble hks _ hd, if_neg (by exact fun hg => lN [lo, k, l, (lo + k - (lo + l)), i, (lo + k - (lo + k - (lo + l)))] 0x21213a40520025200c401c0122061 rfl hi (ar (aD fun hg => lN [lo, k, l] 0x188029003094c1 rfl hlk hg)) (aq (lo + k) (lo + k - (lo + l))) (Nat.le_of_eq (Eq.symm hg))), if_neg (by omega)]
   rw [show min (k + 1) n = k + 1 by exact Nat.min_eq_left hkn]
   intro i j hi hij hj
   show O.kle (tk key (bubble (arrOf st'') (lo + k) (lo + k - (lo + l))) i) (tk key (bubble (arrOf st'') (lo + k) (lo + k - (lo + l))) j)
   have hp : lo + k - (lo + k - (lo + l)) = lo + l := Nat.sub_sub_self (Nat.add_le_add_left hlk lo)
   have V := qZ (key := key) hks hd
   rw [hp] at V
   have v1 : ∀ x, x < lo + l → tk key (bubble (arrOf st'') (lo + k) (lo + k - (lo + l))) x = tk key (arrOf st'') x := fun x h => by rw [V, if_neg (Nat.ne_of_lt h), if_neg fun z => Nat.lt_asymm h z.1]
   have v3 : ∀ x, lo + l < x → x < lo + (k + 1) → tk key (bubble (arrOf st'') (lo + k) (lo + k - (lo + l))) x = tk key (arrOf st'') (x - 1) := fun x h g => by rw [V, if_neg (Nat.ne_of_gt h), if_pos ⟨h, Nat.le_of_lt_succ g⟩]
   have v2 := V (lo + l)
   rw [if_pos rfl] at v2
   clear V hp
   generalize bubble (arrOf st'') (lo + k) (lo + k - (lo + l)) = B at v1 v2 v3 ⊢
   have hlo' : ∀ i, lo ≤ i → i < lo + l → O.kle (tk key (arrOf st'') i) (tk key (arrOf st'') (lo + k)) := fun i h1 h2 => by
    have := hlo (i - lo) (Nat.sub_lt_left_of_lt_add h1 h2)
    rwa [Nat.add_sub_cancel' h1] at this
   have hhi' : ∀ i, lo + l < i → i < lo + (k + 1) → O.klt (tk key (arrOf st'') (lo + k)) (tk key (arrOf st'') (i - 1)) := fun i h1 h2 => by
    obtain ⟨m, rfl⟩ := Nat.exists_eq_add_of_lt h1
    have := hhi (l + m) (Nat.le_add_right _ _) (Nat.lt_of_succ_lt_succ (Nat.lt_of_add_lt_add_left (show lo + (l + m + 1) < lo + (k + 1) by rwa [← Nat.add_assoc, ← Nat.add_assoc])))
    rwa [← Nat.add_assoc] at this
   have pr : ∀ x, lo + l < x → x < lo + (k + 1) → lo ≤ x - 1 ∧ x - 1 < lo + k := fun x h g => ⟨Nat.le_sub_one_of_lt (Nat.lt_of_le_of_lt (Nat.le_add_right _ _) h), Nat.sub_one_lt_of_le (Nat.lt_of_le_of_lt (Nat.zero_le _) h) (Nat.le_of_lt_succ g)⟩
   rcases Nat.lt_trichotomy i (lo + l) with hi' | rfl | hi'
   ·rw [v1 i hi']
    rcases Nat.lt_trichotomy j (lo + l) with hj' | rfl | hj'
    ·rw [v1 j hj']; exact hs' _ _ hi hij (Nat.lt_of_lt_of_le hj' (Nat.add_le_add_left hlk lo))
    ·rw [v2]; exact hlo' i hi hi'
    ·rw [v3 j hj' hj]; exact hs' _ _ hi (Nat.le_sub_one_of_lt (Nat.lt_trans hi' hj')) (pr j hj' hj).2
   ·rw [v2]
    rcases Nat.lt_or_eq_of_le hij with hj' | rfl
    ·rw [v3 j hj' hj]; exact KeyOrd.kle_of_klt (hhi' j hj' hj)
    ·rw [v2]; exact KeyOrd.kle_refl _
   ·have hj' := Nat.lt_of_lt_of_le hi' hij
    rw [v3 i hi' (Nat.lt_of_le_of_lt hij hj), v3 j hj' hj]
    exact hs' _ _ (pr i hi' (Nat.lt_of_le_of_lt hij hj)).1 (Nat.sub_le_sub_right hij 1) (pr j hj' hj).2
end walk
end Mine
end
noncomputable section
namespace Mine
open PySem PyProof.Rows
noncomputable def tt (lo a nrem : Nat) : StateT SortSt Sem (Option (Option Nat) × Nat) :=
 forIn [a:nrem] ((none, a) : Option (Option Nat) × Nat) fun _ c => do
  let r ← ltAt' (lo + c.snd) (lo + c.snd - 1)
  match r with
  | some smaller => if smaller = true then pure (ForInStep.done (none, c.snd)) else pure (ForInStep.yield (none, c.snd + 1))
  | _ => pure (ForInStep.done (some none, c.snd))
noncomputable def sZ (lo n nrem : Nat) : StateT SortSt Sem (Option Nat) := do
 reverseSlice' lo (lo + n)
 let c ← tt lo n nrem
 match c.fst with
 | some r => pure r
 | none => pure (some c.snd)
noncomputable def qH (lo n nrem : Nat) : StateT SortSt Sem (Option (Option Nat) × Nat × Nat) :=
 forIn [n:nrem] ((none, n, 0) : Option (Option Nat) × Nat × Nat) fun _ c => do
  let r ← ltAt' (lo + c.snd.fst) (lo + c.snd.fst - 1)
  match r with
  | some smaller =>
   if smaller = true then
    if c.snd.snd > 0 then do
     reverseSlice' (lo + c.snd.fst - (c.snd.snd + 1)) (lo + c.snd.fst)
     pure (ForInStep.yield (none, c.snd.fst + 1, 0))
    else pure (ForInStep.yield (none, c.snd.fst + 1, 0))
   else do
    let r ← ltAt' (lo + c.snd.fst - 1) (lo + c.snd.fst)
    match r with
    | some larger =>
     if larger = true then pure (ForInStep.done (none, c.snd.fst, c.snd.snd))
     else pure (ForInStep.yield (none, c.snd.fst + 1, c.snd.snd + 1))
    | _ => pure (ForInStep.done (some none, c.snd.fst, c.snd.snd))
  | _ => pure (ForInStep.done (some none, c.snd.fst, c.snd.snd))
noncomputable def oF (lo n nrem : Nat) : StateT SortSt Sem (Option Nat) := do
 liftM (rule "list.sort.descending-run")
 let c ← qH lo (n + 1) nrem
 match c.fst with
 | some r => pure r
 | none =>
  if c.snd.snd > 0 then do
   reverseSlice' (lo + c.snd.fst - (c.snd.snd + 1)) (lo + c.snd.fst)
   sZ lo c.snd.fst nrem
  else sZ lo c.snd.fst nrem
theorem rG (lo nrem : Nat) : countRun' lo nrem = (do
  let c ← tt lo 1 nrem
  match c.fst with
  | some r => pure r
  | none =>
   if (c.snd == nrem) = true then pure (some c.snd)
   else if c.snd > 1 then do
    let r ← ltAt' lo (lo + c.snd - 1)
    match r with
    | some rose => if rose = true then pure (some c.snd) else do
      reverseSlice' lo (lo + c.snd)
      oF lo c.snd nrem
    | _ => pure none
   else oF lo c.snd nrem) := by
 rw [countRun'_eq]
 unfold oF sZ qH tt
 refine bind_congr fun c => ?_
 obtain ⟨r, n⟩ := c
 cases r with
 | some r => rfl
 | none =>
  dsimp only
  split
  ·rfl
  ·split
   ·refine bind_congr fun r => ?_
    cases r with
    | none => rfl
    | some rose =>
     dsimp only
     split
     ·rfl
     ·refine bind_congr fun _ => ?_
      refine bind_congr fun _ => ?_
      refine bind_congr fun c2 => ?_
      obtain ⟨r2, n2, q2⟩ := c2
      cases r2 with
      | some r2 => rfl
      | none =>
       dsimp only
       split
       ·refine bind_congr fun _ => ?_
        refine bind_congr fun _ => ?_
        refine bind_congr fun c3 => ?_
        obtain ⟨r3, n3⟩ := c3
        cases r3 <;> rfl
       ·refine bind_congr fun _ => ?_
        refine bind_congr fun c3 => ?_
        obtain ⟨r3, n3⟩ := c3
        cases r3 <;> rfl
   ·refine bind_congr fun _ => ?_
    refine bind_congr fun c2 => ?_
    obtain ⟨r2, n2, q2⟩ := c2
    cases r2 with
    | some r2 => rfl
    | none =>
     dsimp only
     split
     ·refine bind_congr fun _ => ?_
      refine bind_congr fun _ => ?_
      refine bind_congr fun c3 => ?_
      obtain ⟨r3, n3⟩ := c3
      cases r3 <;> rfl
     ·refine bind_congr fun _ => ?_
      refine bind_congr fun c3 => ?_
      obtain ⟨r3, n3⟩ := c3
      cases r3 <;> rfl
end Mine
end
noncomputable section
namespace Mine
open PySem PyProof.Rows
section walk
variable {prog : Program} {w : World} {A : Around} {E : Value → Shared → Prop} {s : Shared} {kd : SortKind} {O : KeyOrd} {key : Keyed → O.α} {a₀ : Array Keyed}
theorem r4 {st : SortSt} {lo a nrem : Nat} {Q : Option (Option Nat) × Nat → SortSt → Prop} (hL : eV prog w A E s kd O key a₀) (hn : lo + nrem ≤ a₀.size) (ha : 1 ≤ a) (han : a ≤ nrem) (hB : SB kd a₀ st)
  (hs : i6 key (arrOf st) lo (lo + a))
  (h : ∀ n, a ≤ n → n ≤ nrem → i6 key (arrOf st) lo (lo + n) → (n = nrem ∨ O.klt (tk key (arrOf st) (lo + n)) (tk key (arrOf st) (lo + n - 1))) → Q (none, n) st) :
  wpS (model prog w) A E s (tt lo a nrem) Q st := by
 unfold tt
 refine wpS_forRange (I := fun x c st' => st' = st ∧ c = (none, x) ∧ i6 key (arrOf st) lo (lo + x)) ?step ?fin ⟨rfl, rfl, hs⟩
 case fin =>
  rintro c st' ⟨rfl, rfl, hs'⟩
  rw [show max a nrem = nrem by exact Nat.max_eq_right han] at hs' ⊢
  exact h nrem han (Nat.le_refl _) hs' (.inl rfl)
 case step =>
  rintro x c st' hax hxn ⟨rfl, rfl, hs'⟩
  dsimp only
  refine fH hL hB (by exact bP fun hg => lN [lo, nrem, (a₀.size), x] 0xe40182538c2629001 rfl hn hxn hg) (by exact bP fun hg => lN [lo, nrem, (a₀.size), x, (lo + x - 1)] 0x10609c8040c2538c2629001 rfl hn hxn (ar (aD fun hg => lN [lo, a, x] 0x8426200613142508421 rfl ha hax hg)) hg) ?_
  cases hless : O.blt (tk key (arrOf st') (lo + x)) (tk key (arrOf st') (lo + x - 1))
  case true =>
   simp only [if_true]
   exact wpS_pure (h x hax (by exact Nat.le_of_lt hxn) hs' (.inr hless))
  case false =>
   simp only [Bool.false_eq_true, if_false]
   refine wpS_pure ⟨rfl, rfl, fun i j hi hij hj => ?_⟩
   by_cases hjx : j < lo + x
   ·exact hs' i j hi hij hjx
   ·have hj' : j = lo + x := by exact Nat.le_antisymm (aD fun hg => lN [lo, x, j] 0x6290030946401861 rfl hj hg) (aD fun hg => lN [lo, x, j] 0x148030c2629001 rfl (Nat.le_of_not_lt hjx) hg)
    subst hj'
    by_cases hi' : i = lo + x
    ·subst hi'; exact KeyOrd.kle_refl _
    ·exact KeyOrd.kle_trans (hs' i (lo + x - 1) hi (by exact aD fun hg => Or.elim (Nat.lt_or_gt_of_ne hi') (fun hs0 => lN [lo, x, i, (lo + x - 1)] 0x29006184c7184e329001 rfl (aq (lo + x) (1)) hg hs0) (fun hs0 => lN [lo, x, i] 0x18a400c25200c1 rfl hij hs0)) (by exact bP fun hg => lN [lo, x, (lo + x - 1)] 0x18a4004a401861 rfl (ar (aD fun hg => lN [lo, a, x] 0x8426200613142508421 rfl ha hax hg)) hg)) hless
noncomputable def RunPost (kd : SortKind) (O : KeyOrd) (key : Keyed → O.α) (a₀ : Array Keyed) (st : SortSt) (lo nrem : Nat) (Q : Option Nat → SortSt → Prop) : Prop :=
 ∀ m st', SB kd a₀ st' → Kept lo st st' → 1 ≤ m → m ≤ nrem → i6 key (arrOf st') lo (lo + m) → Q (some m) st'
theorem RunPost.step {st st₁ : SortSt} {lo nrem : Nat} {Q : Option Nat → SortSt → Prop} (h : RunPost kd O key a₀ st lo nrem Q) (hK : Kept lo st st₁) : RunPost kd O key a₀ st₁ lo nrem Q :=
 fun m st' hB hK' => h m st' hB (hK.trans hK')
theorem rY {st : SortSt} {lo n nrem : Nat} {Q : Option Nat → SortSt → Prop} (hL : eV prog w A E s kd O key a₀) (hn : lo + nrem ≤ a₀.size) (h1 : 1 ≤ n) (hnn : n ≤ nrem) (hB : SB kd a₀ st)
  (hs : wH key (arrOf st) lo (lo + n)) (h : RunPost kd O key a₀ st lo nrem Q) :
  wpS (model prog w) A E s (sZ lo n nrem) Q st := by
 unfold sZ
 have hsz : lo + n ≤ (arrOf st).size := by rw [hB.size]; exact aD fun hg => lN [lo, nrem, (a₀.size), n] 0xe40186129c2629001 rfl hn hnn hg
 refine wpS_bind (lV ?_)
 have hB' : SB kd a₀ (setArr st (mirror (arrOf st) lo (lo + n) ((lo + n - lo) / 2))) := hB.setArr (mirror_perm _ _ _ _)
 refine wpS_bind (r4 hL hn h1 hnn hB' ?_ fun m hm1 hm2 hsm _ => wpS_pure (h m _ hB' (d5 hsz (Nat.le_refl _)) (by exact Nat.le_trans h1 hm1) hm2 hsm))
 intro i j hi hij hj
 show O.kle (tk key (mirror (arrOf st) lo (lo + n) ((lo + n - lo) / 2)) i) (tk key (mirror (arrOf st) lo (lo + n) ((lo + n - lo) / 2)) j)
 rw [iN hsz, iN hsz, if_pos (by exact And.intro (aD fun hg => lN [lo, i] 0x10a309481 rfl hi hg) (bP fun hg => lN [lo, n, i, j] 0xc520025200e309cc1 rfl hij hj hg)), if_pos (by exact And.intro (aD fun hg => lN [lo, i, j] 0x86184c509481 rfl hi hij hg) (bP fun hg => lN [lo, n, j] 0x18a4004a401861 rfl hj hg))]
 exact hs _ _ (by exact aD fun hg => lN [lo, n, j, (lo + (lo + n) - 1 - j), (lo + (lo + n) - 1)] 0x10e30a06520080098e0404a401861 rfl hj (aq (lo + (lo + n) - 1) (j)) (aq (lo + (lo + n)) (1)) hg) (by exact aD fun hg => lN [i, j, (lo + (lo + n) - 1 - j), (lo + (lo + n) - 1 - i), (lo + (lo + n) - 1)] 0x638c2438101414c009481 rfl hij (ar (aD fun hg => lN [lo, n, j, (lo + (lo + n) - 1)] 0xc7184e329004004a401861 rfl hj (aq (lo + (lo + n)) (1)) hg)) (aq (lo + (lo + n) - 1) (i)) hg) (by exact bP fun hg => lN [lo, n, i, (lo + (lo + n) - 1 - i), (lo + (lo + n) - 1)] 0x7290012900402061418e009881 rfl hi (ar (aD fun hg => lN [lo, n, i, j, (lo + (lo + n) - 1)] 0x640c281948020025200e309cc1 rfl hij hj (aq (lo + (lo + n)) (1)) hg)) (ar (aD fun hg => lN [lo, n] 0x4212900400c2508421 rfl h1 hg)) hg)
theorem tJ {st : SortSt} {lo n nrem : Nat} {Q : Option (Option Nat) × Nat × Nat → SortSt → Prop} (hL : eV prog w A E s kd O key a₀) (hn : lo + nrem ≤ a₀.size) (h1 : 1 ≤ n) (hnn : n ≤ nrem) (hB : SB kd a₀ st)
  (hs : wH key (arrOf st) lo (lo + n))
  (h : ∀ m neq st', SB kd a₀ st' → Kept lo st st' → n ≤ m → m ≤ nrem → wH key (arrOf st') lo (lo + m) → neq + 1 ≤ m →
   (∀ i, lo + m - (neq + 1) ≤ i → i < lo + m → tk key (arrOf st') i = tk key (arrOf st') (lo + m - 1)) → Q (none, m, neq) st') :
  wpS (model prog w) A E s (qH lo n nrem) Q st := by
 unfold qH
 refine wpS_forRange (I := fun x c st' => ∃ neq, c = (none, x, neq) ∧ SB kd a₀ st' ∧ Kept lo st st' ∧ wH key (arrOf st') lo (lo + x) ∧ neq + 1 ≤ x ∧
   (∀ i, lo + x - (neq + 1) ≤ i → i < lo + x → tk key (arrOf st') i = tk key (arrOf st') (lo + x - 1))) ?step ?fin
   ⟨0, rfl, hB, Kept.refl, hs, by exact h1, fun i h1 h2 => by congr 1; exact Nat.le_antisymm (aD fun hg => lN [lo, n, (lo + n - (0 + 1)), i] 0x1cc308023300a4004a401c61 rfl h2 (aq (lo + n) (0 + 1)) hg) (aD fun hg => lN [(lo + n - (0 + 1)), i] 0x10a309481 rfl h1 hg)⟩
 case fin =>
  rintro c st' ⟨neq, rfl, hB', hK, hs', hq, he⟩
  rw [show max n nrem = nrem by exact Nat.max_eq_right hnn] at hs' hq he ⊢
  exact h nrem neq st' hB' hK hnn (Nat.le_refl _) hs' hq he
 case step =>
  rintro x c st' hax hxn ⟨neq, rfl, hB', hK, hs', hq, he⟩
  dsimp only
  have hsz : lo + x ≤ (arrOf st').size := by rw [hB'.size]; exact aD fun hg => lN [lo, nrem, (a₀.size), x] 0x1c8030c2538c2629001 rfl hn hxn hg
  refine fH hL hB' (by exact bP fun hg => lN [lo, nrem, (a₀.size), x] 0xe40182538c2629001 rfl hn hxn hg) (by exact bP fun hg => lN [lo, nrem, (a₀.size), x, (lo + x - 1)] 0x10609c8040c2538c2629001 rfl hn hxn (ar (aD fun hg => lN [lo, n, x] 0x8426200613142508421 rfl h1 hax hg)) hg) ?_
  cases hless : O.blt (tk key (arrOf st') (lo + x)) (tk key (arrOf st') (lo + x - 1))
  case true =>
   simp only [if_true]
   have step1 : ∀ xs : Array Keyed, (∀ k, tk key xs k = tk key (arrOf st') k) → wH key xs lo (lo + (x + 1)) := by
    intro xs hk i j hi hij hj
    rw [hk, hk]
    by_cases hjx : j < lo + x
    ·exact hs' i j hi hij hjx
    ·have hj' : j = lo + x := by exact Nat.le_antisymm (aD fun hg => lN [lo, x, j] 0x6290030946401861 rfl hj hg) (aD fun hg => lN [lo, x, j] 0x148030c2629001 rfl (Nat.le_of_not_lt hjx) hg)
     subst hj'
     by_cases hi' : i = lo + x
     ·subst hi'; exact KeyOrd.kle_refl _
     ·exact KeyOrd.kle_trans (KeyOrd.kle_of_klt hless) (hs' i (lo + x - 1) hi (by exact aD fun hg => Or.elim (Nat.lt_or_gt_of_ne hi') (fun hs0 => lN [lo, x, i, (lo + x - 1)] 0x29006184c7184e329001 rfl (aq (lo + x) (1)) hg hs0) (fun hs0 => lN [lo, x, i] 0x18a400c25200c1 rfl hij hs0)) (by exact bP fun hg => lN [lo, x, (lo + x - 1)] 0x18a4004a401861 rfl (ar (aD fun hg => lN [lo, n, x] 0x8426200613142508421 rfl h1 hax hg)) hg))
   by_cases hneq : neq > 0
   ·rw [if_pos hneq]
    refine wpS_bind (lV (wpS_pure ⟨0, rfl, hB'.setArr (mirror_perm _ _ _ _), hK.trans (d5 hsz (by exact aD fun hg => lN [lo, x, neq, (lo + x - (neq + 1))] 0x21c6130ce02900129861 rfl hq (aq (lo + x) (neq + 1)) hg)), step1 _ (cg hsz he), by exact Nat.succ_pos _, fun i h1 h2 => by congr 1; exact Nat.le_antisymm (aD fun hg => lN [lo, x, (lo + (x + 1) - (0 + 1)), i] 0x730c2008cc028c800946401c61 rfl h2 (aq (lo + (x + 1)) (0 + 1)) hg) (aD fun hg => lN [(lo + (x + 1) - (0 + 1)), i] 0x10a309481 rfl h1 hg)⟩))
   ·rw [if_neg hneq]
    exact wpS_pure ⟨0, rfl, hB', hK, step1 _ (fun _ => rfl), by exact Nat.succ_pos _, fun i h1 h2 => by congr 1; exact Nat.le_antisymm (aD fun hg => lN [lo, x, (lo + (x + 1) - (0 + 1)), i] 0x730c2008cc028c800946401c61 rfl h2 (aq (lo + (x + 1)) (0 + 1)) hg) (aD fun hg => lN [(lo + (x + 1) - (0 + 1)), i] 0x10a309481 rfl h1 hg)⟩
  case false =>
   simp only [Bool.false_eq_true, if_false]
   refine fH hL hB' (by exact bP fun hg => lN [lo, nrem, (a₀.size), x, (lo + x - 1)] 0x10609c8040c2538c2629001 rfl hn hxn (ar (aD fun hg => lN [lo, n, x] 0x8426200613142508421 rfl h1 hax hg)) hg) (by exact bP fun hg => lN [lo, nrem, (a₀.size), x] 0xe40182538c2629001 rfl hn hxn hg) ?_
   cases hlarger : O.blt (tk key (arrOf st') (lo + x - 1)) (tk key (arrOf st') (lo + x))
   case true =>
    simp only [if_true]
    exact wpS_pure (h x neq st' hB' hK hax (by exact Nat.le_of_lt hxn) hs' hq he)
   case false =>
    simp only [Bool.false_eq_true, if_false]
    have heqx : tk key (arrOf st') (lo + x) = tk key (arrOf st') (lo + x - 1) := KeyOrd.kle_antisymm hlarger hless
    refine wpS_pure ⟨neq + 1, rfl, hB', hK, fun i j hi hij hj => ?_, by exact Nat.lt_succ_of_le hq, fun i h1 h2 => ?_⟩
    ·by_cases hjx : j < lo + x
     ·exact hs' i j hi hij hjx
     ·have hj' : j = lo + x := by exact Nat.le_antisymm (aD fun hg => lN [lo, x, j] 0x6290030946401861 rfl hj hg) (aD fun hg => lN [lo, x, j] 0x148030c2629001 rfl (Nat.le_of_not_lt hjx) hg)
      subst hj'
      by_cases hi' : i = lo + x
      ·subst hi'; exact KeyOrd.kle_refl _
      ·rw [heqx]; exact hs' i (lo + x - 1) hi (by exact aD fun hg => Or.elim (Nat.lt_or_gt_of_ne hi') (fun hs0 => lN [lo, x, i, (lo + x - 1)] 0x29006184c7184e329001 rfl (aq (lo + x) (1)) hg hs0) (fun hs0 => lN [lo, x, i] 0x18a400c25200c1 rfl hij hs0)) (by exact bP fun hg => lN [lo, x, (lo + x - 1)] 0x18a4004a401861 rfl (ar (aD fun hg => lN [lo, n, x] 0x8426200613142508421 rfl h1 hax hg)) hg)
    ·rw [show lo + (x + 1) - 1 = lo + x by exact rfl]
     by_cases hix : i = lo + x
     ·subst hix; rfl
     ·rw [heqx]; exact he i (by exact aD fun hg => lN [lo, x, neq, (lo + (x + 1) - (neq + 1 + 1)), i, (lo + x - (neq + 1))] 0x940c25200c34802618ce028c800a0e1 rfl h1 (aq (lo + (x + 1)) (neq + 1 + 1)) (ar (aD fun hg => lN [lo, x, neq] 0x18652006129861 rfl hq hg)) hg) (by exact bP fun hg => Or.elim (Nat.lt_or_gt_of_ne hix) (fun hs0 => lN [lo, x, i] 0x148030c2629001 rfl hg hs0) (fun hs0 => lN [lo, x, i] 0x6290030946401861 rfl h2 hs0))
theorem ql {st : SortSt} {lo n nrem : Nat} {Q : Option Nat → SortSt → Prop} (hL : eV prog w A E s kd O key a₀) (hn : lo + nrem ≤ a₀.size) (hnn : n + 1 ≤ nrem) (hB : SB kd a₀ st)
  (hs : wH key (arrOf st) lo (lo + (n + 1))) (h : RunPost kd O key a₀ st lo nrem Q) :
  wpS (model prog w) A E s (oF lo n nrem) Q st := by
 unfold oF
 refine eo ?_
 refine wpS_bind (tJ hL hn (by exact Nat.succ_pos _) hnn hB hs fun m neq st' hB' hK hm1 hm2 hs' hq he => ?_)
 dsimp only
 have hsz : lo + m ≤ (arrOf st').size := by rw [hB'.size]; exact aD fun hg => lN [lo, nrem, (a₀.size), m] 0xe40186129c2629001 rfl hn hm2 hg
 by_cases hneq : neq > 0
 ·rw [if_pos hneq]
  refine wpS_bind (lV (rY hL hn (by exact Nat.zero_lt_of_lt hm1) hm2 (hB'.setArr (mirror_perm _ _ _ _)) ?_ (h.step (hK.trans (d5 hsz (by exact aD fun hg => lN [lo, m, neq, (lo + m - (neq + 1))] 0x21c6130ce02900129861 rfl hq (aq (lo + m) (neq + 1)) hg))))))
  intro i j hi hij hj
  show O.kle (tk key (mirror (arrOf st') _ _ _) j) (tk key (mirror (arrOf st') _ _ _) i)
  rw [cg hsz he, cg hsz he]
  exact hs' i j hi hij hj
 ·rw [if_neg hneq]
  exact rY hL hn (by exact Nat.zero_lt_of_lt hm1) hm2 hB' hs' (h.step hK)
theorem rZ {st : SortSt} {lo nrem : Nat} {Q : Option Nat → SortSt → Prop} (hL : eV prog w A E s kd O key a₀) (hn : lo + nrem ≤ a₀.size) (h1 : 1 ≤ nrem) (hB : SB kd a₀ st)
  (h : RunPost kd O key a₀ st lo nrem Q) :
  wpS (model prog w) A E s (countRun' lo nrem) Q st := by
 rw [rG]
 refine wpS_bind (r4 hL hn (Nat.le_refl 1) h1 hB (fun i j hi hij hj => by have : i = j := (by exact Nat.le_antisymm (aD fun hg => lN [i, j] 0x10a309481 rfl hij hg) (aD fun hg => lN [lo, i, j] 0x3146120cc309481 rfl hi hj hg)); subst this; exact KeyOrd.kle_refl _) fun n hn1 hn2 hsn hor => ?_)
 dsimp only
 by_cases hnn : n = nrem
 ·rw [if_pos (by simpa using hnn)]
  exact wpS_pure (h n st hB Kept.refl hn1 hn2 hsn)
 ·rw [if_neg (by simpa using hnn)]
  have hlt : O.klt (tk key (arrOf st) (lo + n)) (tk key (arrOf st) (lo + n - 1)) := hor.resolve_left hnn
  by_cases hgt : n > 1
  ·rw [if_pos hgt]
   refine fH hL hB (by exact bP fun hg => lN [lo, nrem, (a₀.size)] 0x4304a10842629001 rfl hn h1 hg) (by exact bP fun hg => lN [lo, nrem, (a₀.size), n, (lo + n - 1)] 0x8304e40206129c2629001 rfl hn hn2 (ar (aD fun hg => lN [lo, n] 0x2109480184a108461 rfl hgt hg)) hg) ?_
   cases hrose : O.blt (tk key (arrOf st) lo) (tk key (arrOf st) (lo + n - 1))
   case true =>
    simp only [if_true]
    exact wpS_pure (h n st hB Kept.refl hn1 hn2 hsn)
   case false =>
    simp only [Bool.false_eq_true, if_false]
    have hsz : lo + n ≤ (arrOf st).size := by rw [hB.size]; exact aD fun hg => lN [lo, nrem, (a₀.size), n] 0xe40186129c2629001 rfl hn hn2 hg
    have hall : ∀ k, lo ≤ k → k < lo + n → tk key (arrOf st) k = tk key (arrOf st) (lo + n - 1) := by
     intro k hk1 hk
     have a1 := hsn lo k (by exact Nat.le_refl _) hk1 hk
     have a2 := hsn k (lo + n - 1) hk1 (by exact aD fun hg => lN [lo, n, k, (lo + n - 1)] 0x31c6138ca4004a401861 rfl hk (aq (lo + n) (1)) hg) (by exact bP fun hg => lN [lo, n, (lo + n - 1)] 0x18a4004a401861 rfl (ar (aD fun hg => lN [lo, n] 0x2109480184a108461 rfl hgt hg)) hg)
     exact KeyOrd.kle_antisymm a2 (KeyOrd.kle_trans hrose a1)
    refine wpS_bind (lV (ql hL hn (by exact Nat.lt_of_le_of_ne hn2 hnn) (hB.setArr (mirror_perm _ _ _ _)) ?_ (h.step (d5 hsz (Nat.le_refl _)))))
    intro i j hi hij hj
    show O.kle (tk key (mirror (arrOf st) _ _ _) j) (tk key (mirror (arrOf st) _ _ _) i)
    rw [cg hsz hall, cg hsz hall]
    by_cases hjn : j < lo + n
    ·rw [hall i (by exact hi) (by exact Nat.lt_of_le_of_lt hij hjn), hall j (by exact Nat.le_trans hi hij) hjn]; exact KeyOrd.kle_refl _
    ·have hj' : j = lo + n := by exact Nat.le_antisymm (aD fun hg => lN [lo, n, j] 0x6290030946401861 rfl hj hg) (aD fun hg => lN [lo, n, j] 0x148030c2629001 rfl (Nat.le_of_not_lt hjn) hg)
     subst hj'
     by_cases hi' : i = lo + n
     ·subst hi'; exact KeyOrd.kle_refl _
     ·rw [hall i (by exact hi) (by exact Nat.lt_of_le_of_ne hij hi')]; exact KeyOrd.kle_of_klt hlt
  ·rw [if_neg hgt]
   have hn1' : n = 1 := by omega
   subst hn1'
   refine ql hL hn (by exact Nat.lt_of_le_of_ne h1 hnn) hB ?_ h
   intro i j hi hij hj
   by_cases hi' : i = j
   ·subst hi'; exact KeyOrd.kle_refl _
   ·have hi0 : i = lo := by exact Nat.le_antisymm (aD fun hg => Or.elim hor (fun hs0 => Or.elim (Nat.lt_or_gt_of_ne hnn) (fun hs1 => lN [nrem] 0x102108c2108481 rfl (Nat.le_of_eq (Eq.symm hs0)) hs1) (fun hs1 => lN [nrem] 0x42120c2408421 rfl h1 hs1)) (fun hs0 => Or.elim (Nat.lt_or_gt_of_ne hi') (fun hs1 => lN [lo, i, j] 0x628c2520c210846401861 rfl hj hg hs1) (fun hs1 => lN [i, j] 0x10a309481 rfl hij hs1))) (aD fun hg => lN [lo, i] 0x10a309481 rfl hi hg)
    have hj1 : j = lo + 1 := by exact Nat.le_antisymm (aD fun hg => lN [lo, j] 0xa418c210846401461 rfl hj hg) (aD fun hg => Or.elim hor (fun hs0 => Or.elim (Nat.lt_or_gt_of_ne hnn) (fun hs1 => lN [nrem] 0x102108c2108481 rfl (Nat.le_of_eq (Eq.symm hs0)) hs1) (fun hs1 => lN [nrem] 0x42120c2408421 rfl h1 hs1)) (fun hs0 => Or.elim (Nat.lt_or_gt_of_ne hi') (fun hs1 => lN [lo, i, j] 0x3146120cc309481 rfl hi hg hs1) (fun hs1 => lN [i, j] 0x10a309481 rfl hij hs1)))
    subst hi0; subst hj1
    exact KeyOrd.kle_of_klt hlt
end walk
end Mine
end
noncomputable section
namespace Mine
open PySem PyProof.Rows
noncomputable def qG : Bool → Keyed → Array Keyed → Nat → Nat → Nat → StateT SortSt Sem (Option Nat) := sortPriv% PySem.Builtin.gallop
noncomputable def n4 : Array Keyed → Array Keyed → StateT SortSt Sem (Array Keyed) := sortPriv% PySem.Builtin.mergeLo
noncomputable def n5 : Array Keyed → Array Keyed → StateT SortSt Sem (Array Keyed) := sortPriv% PySem.Builtin.mergeHi
noncomputable def fF {O : KeyOrd} (key : Keyed → O.α) (left : Bool) (k : Keyed) (arr : Array Keyed) (i : Nat) : Bool :=
 if left then O.blt (tk key arr i) (key k) else !O.blt (key k) (tk key arr i)
noncomputable def vR (left : Bool) (k : Keyed) (arr : Array Keyed) (base i : Nat) : StateT SortSt Sem (Option Bool) := do
 let x ← elem' arr (base + i)
 if left then lt' x k else return (← lt' k x).map (!·)
section walk
variable {prog : Program} {w : World} {A : Around} {E : Value → Shared → Prop} {s : Shared} {kd : SortKind} {O : KeyOrd} {key : Keyed → O.α} {a₀ : Array Keyed}
theorem uT {st : SortSt} {left : Bool} {k : Keyed} {arr : Array Keyed} {base i : Nat} {Q : Option Bool → SortSt → Prop} (hL : eV prog w A E s kd O key a₀)
  (hk : k ∈ a₀.toList) (ha : ∀ x ∈ arr.toList, x ∈ a₀.toList) (hi : base + i < arr.size) (hkd : kindOf st = kd)
  (h : Q (some (fF key left k arr (base + i))) st) : wpS (model prog w) A E s (vR left k arr base i) Q st := by
 have e : arr[base + i]? = some arr[base + i] := getElem?_pos arr _ hi
 have m : arr[base + i] ∈ a₀.toList := ha _ (by simp)
 have et : tk key arr (base + i) = key arr[base + i] := by unfold tk; rw [e]; rfl
 unfold vR
 rw [elem'_eq, e]
 refine wpS_bind (wpS_pure ?_)
 unfold fF at h
 rw [et] at h
 cases left with
 | true => exact hL _ _ m hk _ _ hkd h
 | false =>
  simp only [Bool.false_eq_true, if_false] at h ⊢
  exact wpS_bind (hL _ _ hk m _ _ hkd (wpS_pure h))
theorem rW {α β γ : Type} {Q : α → SortSt → Prop} {st : SortSt} {m : StateT SortSt Sem α} {G : β → γ → StateT SortSt Sem α} (H : β → γ → Prop) (use : (∀ x y, H x y → wpS (model prog w) A E s (G x y) Q st) → wpS (model prog w) A E s m Q st)
  (key : ∀ x y, H x y → wpS (model prog w) A E s (G x y) Q st) : wpS (model prog w) A E s m Q st := use key
theorem dE {st : SortSt} {left : Bool} {k : Keyed} {arr : Array Keyed} {base n hint : Nat} {Q : Option Nat → SortSt → Prop} (hL : eV prog w A E s kd O key a₀)
  (hk : k ∈ a₀.toList) (ha : ∀ x ∈ arr.toList, x ∈ a₀.toList) (hn : base + n ≤ arr.size) (hh : hint < n) (hkd : kindOf st = kd)
  (hm : ∀ i j, i ≤ j → j < n → fF key left k arr (base + j) = true → fF key left k arr (base + i) = true)
  (h : ∀ r, r ≤ n → (∀ i, i < r → fF key left k arr (base + i) = true) → (∀ i, r ≤ i → i < n → fF key left k arr (base + i) = false) → Q (some r) st) :
  wpS (model prog w) A E s (qG left k arr base n hint) Q st := by
 have hb : ∀ {i : Nat} {Q : Option Bool → SortSt → Prop}, i < n → Q (some (fF key left k arr (base + i))) st → wpS (model prog w) A E s (vR left k arr base i) Q st :=
  fun hi h => uT hL hk ha (by (rename_i zz1 zz0; exact bP fun hg => lN [base, n, (arr.size), zz1] 0xe40182538c2629001 rfl hn hi hg)) hkd h
 have hmf : ∀ i j, i ≤ j → j < n → fF key left k arr (base + i) = false → fF key left k arr (base + j) = false := by
  intro i j hij hj hf
  cases hbj : fF key left k arr (base + j) with
  | false => rfl
  | true => rw [hm i j hij hj hbj] at hf; cases hf
 unfold qG
 refine wpS_bind (hb hh ?_)
 refine' rW (G := ?G) (fun lo hi => lo ≤ hi ∧ hi ≤ n ∧ (∀ i, i < lo → fF key left k arr (base + i) = true) ∧ (∀ i, hi ≤ i → i < n → fF key left k arr (base + i) = false)) (fun K => ?use) ?key
 case use =>
  cases hr : fF key left k arr (base + hint) with
  | true =>
   refine dp (fun x c st' => st' = st ∧ ∃ l o, c = (none, l, o) ∧ l < o ∧ x + 1 ≤ o ∧ l < n - hint ∧ fF key left k arr (base + (hint + l)) = true)
    (fun c st' => st' = st ∧ ∃ l o, c = (none, l, o) ∧ l < o ∧ l < n - hint ∧ fF key left k arr (base + (hint + l)) = true ∧ (o < n - hint → fF key left k arr (base + (hint + o)) = false)) ?step ?fin ⟨rfl, 0, 1, rfl, Nat.one_pos, Nat.le_refl _, by exact Nat.sub_pos_of_lt hh, hr⟩ ?post
   case fin =>
    rintro c st' ⟨rfl, l, o, rfl, h1, h2, h3, h4⟩
    exact ⟨rfl, l, o, rfl, h1, h3, h4, fun h5 => absurd h5 (Nat.not_lt.mpr (Nat.le_trans (Nat.sub_le _ _) (Nat.le_trans (Nat.le_max_right _ _) (Nat.le_of_succ_le h2))))⟩
   case step =>
    rintro F hF x c st' ⟨rfl, l, o, rfl, h1, h2, h3, h4⟩
    subst hF
    dsimp only
    by_cases ho : o ≥ n - hint
    ·rw [if_pos ho]
     exact wpS_pure ⟨rfl, l, o, rfl, h1, h3, h4, fun h5 => absurd h5 (Nat.not_lt.mpr ho)⟩
    ·rw [if_neg ho]
     refine wpS_bind (hb (Nat.add_lt_of_lt_sub' (Nat.lt_of_not_le ho)) ?_)
     cases hbo : fF key left k arr (base + (hint + o)) with
     | true => exact wpS_pure ⟨rfl, o, 2 * o + 1, rfl, by exact bP fun hg => lN [l, o] 0xa51086129061 rfl h1 hg, by exact aD fun hg => lN [l, o, x] 0x618ca210c612986129061 rfl h1 h2 hg, by exact Nat.lt_of_not_le ho, hbo⟩
     | false => exact wpS_pure ⟨rfl, l, o, rfl, h1, h3, h4, fun _ => hbo⟩
   case post =>
    rintro K2 hK c st' ⟨hst, l, o, rfl, h1, h3, h4, h5⟩
    rw [hst]
    subst hK
    dsimp only
    have H : hint + l + 1 ≤ hint + min o (n - hint) ∧ hint + min o (n - hint) ≤ n ∧ (∀ i, i < hint + l + 1 → fF key left k arr (base + i) = true) ∧ (∀ i, hint + min o (n - hint) ≤ i → i < n → fF key left k arr (base + i) = false) := by
     refine ⟨by exact aD fun hg => Or.elim (a8 (n) (hint)) (fun hs0 => Or.elim (bJ (o) (n - hint)) (fun hs1 => lN [hint, l, o, (min o (n - hint))] 0x39825200672006131461 rfl h1 hg hs1) (fun hs1 => lN [hint, l, (n - hint), (min o (n - hint))] 0x39825200672006131461 rfl h3 hg hs1)) (fun hs0 => lN [n, hint, (n - hint)] 0x98253008121461 rfl hh (aq (n) (hint)) (Nat.le_of_eq hs0)), by exact aD fun hg => lN [n, hint, (n - hint), (min o (n - hint))] 0xe501061214c0098e1 rfl (Nat.min_le_right (o) (n - hint)) (ar (aD fun hg => lN [n, hint] 0x2906121461 rfl hh hg)) hg, fun i hi => hm i (hint + l) (by exact Nat.le_of_lt_succ hi) (by exact bP fun hg => lN [n, hint, l, (n - hint)] 0xc50102429c0139861 rfl h3 (ar (aD fun hg => lN [n, hint] 0x2906121461 rfl hh hg)) hg) h4, fun i h6 h7 => ?_⟩
     by_cases ho : o < n - hint
     ·exact hmf (hint + o) i (by exact aD fun hg => Or.elim (a8 (n) (hint)) (fun hs0 => Or.elim (bJ (o) (n - hint)) (fun hs1 => lN [hint, o, (min o (n - hint)), i] 0xc50948038c2731001 rfl h6 hg hs1) (fun hs1 => lN [hint, o, (n - hint), (min o (n - hint)), i] 0xe60948040c2628c2839001 rfl h6 ho hg hs1)) (fun hs0 => lN [n, hint, (n - hint)] 0x98253008121461 rfl hh (aq (n) (hint)) (Nat.le_of_eq hs0))) h7 (h5 ho)
     ·exact absurd h7 (Nat.not_lt.mpr (by rwa [Nat.min_eq_right (Nat.le_of_not_lt ho), Nat.add_sub_cancel' (Nat.le_of_lt hh)] at h6))
    generalize hint + l + 1 = lo at H ⊢
    generalize hint + min o (n - hint) = hi at H ⊢
    exact K lo hi H
  | false =>
   refine dp (fun x c st' => st' = st ∧ ∃ l o, c = (none, l, o) ∧ l < o ∧ x + 1 ≤ o ∧ l ≤ hint ∧ fF key left k arr (base + (hint - l)) = false)
    (fun c st' => st' = st ∧ ∃ l o, c = (none, l, o) ∧ l < o ∧ l ≤ hint ∧ fF key left k arr (base + (hint - l)) = false ∧ (o ≤ hint → fF key left k arr (base + (hint - o)) = true)) ?step ?fin ⟨rfl, 0, 1, rfl, Nat.one_pos, Nat.le_refl _, Nat.zero_le _, hr⟩ ?post
   case fin =>
    rintro c st' ⟨rfl, l, o, rfl, h1, h2, h3, h4⟩
    exact ⟨rfl, l, o, rfl, h1, h3, h4, fun h5 => absurd (Nat.lt_of_le_of_lt h5 hh) (Nat.not_lt.mpr (Nat.le_trans (Nat.le_max_right _ _) (Nat.le_of_succ_le h2)))⟩
   case step =>
    rintro F hF x c st' ⟨rfl, l, o, rfl, h1, h2, h3, h4⟩
    subst hF
    dsimp only
    by_cases ho : o ≥ hint + 1
    ·rw [if_pos ho]
     exact wpS_pure ⟨rfl, l, o, rfl, h1, h3, h4, fun h5 => absurd ho (Nat.not_le.mpr (Nat.lt_succ_of_le h5))⟩
    ·rw [if_neg ho]
     refine wpS_bind (hb (by exact Nat.lt_of_le_of_lt (Nat.sub_le _ _) hh) ?_)
     cases hbo : fF key left k arr (base + (hint - o)) with
     | false => exact wpS_pure ⟨rfl, o, 2 * o + 1, rfl, by exact bP fun hg => lN [l, o] 0xa51086129061 rfl h1 hg, by exact aD fun hg => lN [l, o, x] 0x618ca210c612986129061 rfl h1 h2 hg, by exact Nat.le_of_not_lt ho, hbo⟩
     | true => exact wpS_pure ⟨rfl, l, o, rfl, h1, h3, h4, fun _ => hbo⟩
   case post =>
    rintro K2 hK c st' ⟨hst, l, o, rfl, h1, h3, h4, h5⟩
    rw [hst]
    subst hK
    dsimp only
    refine K _ _ ⟨by exact aD fun hg => Or.elim (a8 (hint + 1) (min o (hint + 1))) (fun hs0 => Or.elim (bJ (o) (hint + 1)) (fun hs1 => lN [hint, l, o, (hint + 1 - min o (hint + 1)), (hint - l), (min o (hint + 1))] 0x12609d03095002048349c0131461 rfl h1 (ar (aD fun hg => lN [hint, (min o (hint + 1))] 0x520c6120ca1 rfl (Nat.min_le_right (o) (hint + 1)) hg)) (aq (hint) (l)) hg hs1) (fun hs1 => lN [hint, l, (hint + 1 - min o (hint + 1)), (hint - l), (min o (hint + 1))] 0x104184c7184a7010241a0c0090a1 rfl h3 (ar (aD fun hg => lN [hint, (min o (hint + 1))] 0x520c6120ca1 rfl (Nat.min_le_right (o) (hint + 1)) hg)) (aq (hint) (l)) hg hs1)) (fun hs0 => lN [hint, l, (hint + 1 - min o (hint + 1)), (hint - l)] 0x4c131c6129c04090a1 rfl h3 (aq (hint) (l)) hg (Nat.le_of_eq hs0)), by exact aD fun hg => lN [n, hint, l, (hint - l)] 0x720c2531c0121461 rfl hh (ar (aD fun hg => lN [hint, l] 0x1483090a1 rfl h3 hg)) hg, fun i hi => ?_, fun i h6 h7 => hmf (hint - l) i (by exact h6) h7 h4⟩
    by_cases ho : o ≤ hint
    ·exact hm i (hint - o) (by exact aD fun hg => Or.elim (a8 (hint + 1) (min o (hint + 1))) (fun hs0 => Or.elim (bJ (o) (hint + 1)) (fun hs1 => lN [hint, o, i, (hint + 1 - min o (hint + 1)), (hint - o), (min o (hint + 1))] 0x12509903095002048349c0139861 rfl hi (ar (aD fun hg => lN [hint, o, (min o (hint + 1))] 0x1883184a6090a1 rfl ho (Nat.min_le_left (o) (hint + 1)) hg)) (aq (hint) (o)) hg hs1) (fun hs1 => lN [hint, o, (min o (hint + 1))] 0xc4184a6090a1 rfl ho (Nat.min_le_left (o) (hint + 1)) hs1)) (fun hs0 => lN [hint, o, i, (hint + 1 - min o (hint + 1)), (hint - o)] 0x4e1320612a004090a139861 rfl hi ho (aq (hint) (o)) hg (Nat.le_of_eq hs0))) (by exact Nat.lt_of_le_of_lt (Nat.sub_le _ _) hh) (h5 ho)
    ·exact absurd hi (by rw [Nat.min_eq_right (Nat.lt_of_not_le ho), Nat.sub_self]; exact Nat.not_lt_zero _)
 case key =>
  rintro lo hi ⟨b1, b2, b4, b5⟩
  refine dp (fun x c st'' => st'' = st ∧ ∃ lo hi, c = (none, lo, hi) ∧ lo ≤ hi ∧ hi ≤ n ∧ hi - lo ≤ n - x ∧
    (∀ i, i < lo → fF key left k arr (base + i) = true) ∧ (∀ i, hi ≤ i → i < n → fF key left k arr (base + i) = false))
   (fun c st'' => st'' = st ∧ ∃ lo hi, c = (none, lo, hi) ∧ hi ≤ n ∧
    (∀ i, i < hi → fF key left k arr (base + i) = true) ∧ (∀ i, hi ≤ i → i < n → fF key left k arr (base + i) = false)) ?step ?fin ⟨rfl, lo, hi, rfl, b1, b2, by exact Nat.le_trans (Nat.sub_le _ _) b2, b4, b5⟩ ?post
  case fin =>
   rintro c st'' ⟨rfl, lo, hi, rfl, a1, a2, a3, a4, a5⟩
   have : lo = hi := by exact Nat.le_antisymm (aD fun hg => lN [lo, hi] 0x10a309481 rfl a1 hg) (aD fun hg => lN [n, lo, hi, (hi - lo), (n - max 0 n)] 0x628c242200129c060a0e1 rfl a3 (aq (hi) (lo)) (ar (aD fun hg => lN [n] 0x21061 rfl hg)) hg)
   subst this
   exact ⟨rfl, lo, lo, rfl, a2, a4, a5⟩
  case step =>
   rintro F hF x c st'' ⟨rfl, lo, hi, rfl, a1, a2, a3, a4, a5⟩
   subst hF
   dsimp only
   by_cases hge : lo ≥ hi
   ·rw [if_pos hge]
    have : lo = hi := by exact Nat.le_antisymm a1 hge
    subst this
    exact wpS_pure ⟨rfl, lo, lo, rfl, a2, a4, a5⟩
   ·rw [if_neg hge]
    have hmid : lo + (hi - lo) / 2 < hi := Nat.lt_of_lt_of_eq (Nat.add_lt_add_left (Nat.div_lt_self (Nat.sub_pos_of_lt (Nat.lt_of_not_le hge)) (by decide)) lo) (Nat.add_sub_cancel' a1)
    refine wpS_bind (hb (i := lo + (hi - lo) / 2) (Nat.lt_of_lt_of_le hmid a2) ?_)
    cases hbo : fF key left k arr (base + (lo + (hi - lo) / 2)) with
    | true => exact wpS_pure ⟨rfl, _, hi, rfl, hmid, a2, by exact aD fun hg => Or.elim (a8 (n) (x)) (fun hs0 => Or.elim (a8 (hi) (lo + (hi - lo) / 2 + 1)) (fun hs1 => lN [n, lo, hi, (hi - lo), (n - x), (hi - (lo + (hi - lo) / 2 + 1)), (n - (x + 1)), x, ((hi - lo) / 2)] 0x330a01a40222d001254312c6a01045380c31042c1080718507118a1 rfl a1 a3 (Mine.fh (hi - lo) 2 (by decide)) (aq (hi) (lo)) (aq (n) (x + 1)) hg (Nat.le_of_eq hs0) (Nat.le_of_eq hs1)) (fun hs1 => lN [(hi - (lo + (hi - lo) / 2 + 1)), (n - (x + 1))] 0x48121461 rfl hg (Nat.le_of_eq hs1))) (fun hs0 => Or.elim (a8 (hi) (lo + (hi - lo) / 2 + 1)) (fun hs1 => lN [lo, hi, (hi - lo), (n - x), (hi - (lo + (hi - lo) / 2 + 1)), ((hi - lo) / 2)] 0xa92006800801384860144208522100c309cc1 rfl a3 (Mine.fh (hi - lo) 2 (by decide)) (aq (hi) (lo)) (Nat.le_of_eq hs0) (Nat.le_of_eq hs1)) (fun hs1 => lN [(hi - (lo + (hi - lo) / 2 + 1)), (n - (x + 1))] 0x48121461 rfl hg (Nat.le_of_eq hs1))), fun i hi' => hm i _ (by exact Nat.le_of_lt_succ hi') (by omega) hbo, a5⟩
    | false => exact wpS_pure ⟨rfl, lo, _, rfl, by exact Nat.le_add_right _ _, by exact aD fun hg => lN [n, lo, hi, (hi - lo), ((hi - lo) / 2)] 0x10501062314e009d0210486118a1 rfl a1 a2 (Mine.gW (hi - lo) 2) (ar (aD fun hg => lN [lo, hi] 0x10a309481 rfl a1 hg)) hg, by exact aD fun hg => Or.elim (a8 (hi) (lo)) (fun hs0 => Or.elim (a8 (n) (x)) (fun hs1 => lN [n, lo, (hi - lo), (n - x), (lo + (hi - lo) / 2 - lo), (n - (x + 1)), x, ((hi - lo) / 2)] 0x8a3802848c4a1a4040aca02a00232c4209cc1 rfl a3 (Mine.gW (hi - lo) 2) (ar (aD fun hg => lN [lo, hi, (hi - lo), ((hi - lo) / 2)] 0x21c801888601422084e2100c309481 rfl a1 (Mine.fh (hi - lo) 2 (by decide)) (aq (hi) (lo)) hg)) (aq (n) (x + 1)) hg (Nat.le_of_eq hs1)) (fun hs1 => lN [lo, (hi - lo), (n - x), (lo + (hi - lo) / 2 - lo), (n - (x + 1)), ((hi - lo) / 2)] 0x2609d031248021c022a442098a1 rfl a3 (Mine.gW (hi - lo) 2) (ar (aD fun hg => lN [lo, hi, (hi - lo), ((hi - lo) / 2)] 0x21c801888601422084e2100c309481 rfl a1 (Mine.fh (hi - lo) 2 (by decide)) (aq (hi) (lo)) hg)) hg (Nat.le_of_eq hs1))) (fun hs0 => lN [lo, (hi - lo), (lo + (hi - lo) / 2 - lo), (n - (x + 1)), ((hi - lo) / 2)] 0x4a131c62410043004540841 rfl (Mine.gW (hi - lo) 2) (ar (aD fun hg => lN [lo, hi, (hi - lo), ((hi - lo) / 2)] 0x21c801888601422084e2100c309481 rfl a1 (Mine.fh (hi - lo) 2 (by decide)) (aq (hi) (lo)) hg)) hg (Nat.le_of_eq hs0)), a4, fun i h6 h7 => hmf _ i h6 h7 hbo⟩
  case post =>
   rintro K hK c st'' ⟨rfl, lo, hi, rfl, a2, a4, a5⟩
   subst hK
   exact wpS_pure (h hi a2 a4 a5)
end walk
end Mine
end
noncomputable section
namespace Mine
open PySem PyProof.Rows
abbrev hH {O : KeyOrd} (key : Keyed → O.α) (l : List Keyed) : Prop := l.Pairwise fun x y => O.kle (key x) (key y)
structure Same (st st' : SortSt) : Prop where
 arr : arrOf st' = arrOf st
 kind : kindOf st' = kindOf st
 failed : failedOf st' = failedOf st
 pend : pendingOf st' = pendingOf st
theorem Same.refl {st : SortSt} : Same st st := ⟨rfl, rfl, rfl, rfl⟩
theorem Same.trans {a b c : SortSt} (h : Same a b) (k : Same b c) : Same a c :=
 ⟨k.arr.trans h.arr, k.kind.trans h.kind, k.failed.trans h.failed, k.pend.trans h.pend⟩
section pure
variable {O : KeyOrd} {key : Keyed → O.α}
theorem bo {arr : Array Keyed} {i : Nat} (hi : i < arr.size) : tk key arr i = key arr[i] := by
 unfold tk; rw [getElem?_pos arr i hi]; rfl
theorem gn {arr : Array Keyed} {x : Keyed} {d : Nat} (h : x ∈ arr.toList.drop d) : ∃ i, d ≤ i ∧ i < arr.size ∧ key x = tk key arr i := by
 obtain ⟨i, hi, e⟩ := List.getElem_of_mem h
 simp only [List.length_drop, Array.length_toList] at hi
 refine ⟨d + i, by exact Nat.le_add_right _ _, by exact bP fun hg => Or.elim (a8 (arr.size) (d)) (fun hs0 => lN [i, (arr.size - d), d, (arr.size)] 0xe628024300e129061 rfl hi hg (Nat.le_of_eq hs0)) (fun hs0 => lN [i, (arr.size - d)] 0x4a129061 rfl hi (Nat.le_of_eq hs0)), ?_⟩
 rw [bo (by exact bP fun hg => Or.elim (a8 (arr.size) (d)) (fun hs0 => lN [i, (arr.size - d), d, (arr.size)] 0xe628024300e129061 rfl hi hg (Nat.le_of_eq hs0)) (fun hs0 => lN [i, (arr.size - d)] 0x4a129061 rfl hi (Nat.le_of_eq hs0))), ← e]
 simp
theorem di {arr : Array Keyed} {x : Keyed} {d : Nat} (h : x ∈ arr.toList.take d) : ∃ i, i < d ∧ i < arr.size ∧ key x = tk key arr i := by
 obtain ⟨i, hi, e⟩ := List.getElem_of_mem h
 simp only [List.length_take, Array.length_toList] at hi
 refine ⟨i, by exact bP fun hg => lN [i, (min d arr.size), d] 0x86098a129061 rfl hi (Nat.min_le_left (d) (arr.size)) hg, by exact bP fun hg => lN [i, (min d arr.size), (arr.size)] 0x86098a129061 rfl hi (Nat.min_le_right (d) (arr.size)) hg, ?_⟩
 rw [bo (by exact bP fun hg => lN [i, (min d arr.size), (arr.size)] 0x86098a129061 rfl hi (Nat.min_le_right (d) (arr.size)) hg), ← e]
 simp
theorem bS {arr : Array Keyed} (h : hH key arr.toList) : ∀ i j, i ≤ j → j < arr.size → O.kle (tk key arr i) (tk key arr j) := by
 intro i j hij hj
 by_cases e : i = j
 ·subst e; exact KeyOrd.kle_refl _
 ·rw [bo (by exact Nat.lt_of_le_of_lt hij hj), bo hj]
  have := List.pairwise_iff_getElem.mp h i j (by simpa using (by exact Nat.lt_of_le_of_lt hij hj : i < arr.size)) (by simpa using hj) (by exact Nat.lt_of_le_of_ne hij e)
  simpa using this
theorem da {arr : Array Keyed} {i j : Nat} (h : i6 key arr i j) (hj : j ≤ arr.size) : hH key (arr.extract i j).toList := by
 refine List.pairwise_iff_getElem.mpr ?_
 intro p q hp hq hpq
 simp only [Array.toList_extract, List.extract_eq_take_drop, List.length_take, List.length_drop, Array.length_toList] at hp hq
 have := h (i + p) (i + q) (by exact Nat.le_add_right _ _) (by exact aD fun hg => lN [p, q, i] 0x218053006129061 rfl hpq hg) (by exact bP fun hg => Or.elim (bJ (j - i) (arr.size - i)) (fun hs0 => Or.elim (a8 (j) (i)) (fun hs1 => lN [j, q, (min (j - i) (arr.size - i)), i, (j - i)] 0x43a00129c040a0c131461 rfl hq (Nat.min_le_left (j - i) (arr.size - i)) hg (Nat.le_of_eq hs1)) (fun hs1 => lN [p, q, (min (j - i) (arr.size - i)), (j - i)] 0x2709cc13146129061 rfl hpq hq (Nat.min_le_left (j - i) (arr.size - i)) (Nat.le_of_eq hs1))) (fun hs0 => Or.elim (a8 (j) (i)) (fun hs1 => lN [j, q, (min (j - i) (arr.size - i)), i, (j - i)] 0x43a00129c040a0c131461 rfl hq (Nat.min_le_left (j - i) (arr.size - i)) hg (Nat.le_of_eq hs1)) (fun hs1 => lN [p, q, (min (j - i) (arr.size - i)), (j - i)] 0x2709cc13146129061 rfl hpq hq (Nat.min_le_left (j - i) (arr.size - i)) (Nat.le_of_eq hs1))))
 rw [bo (by exact bP fun hg => Or.elim (bJ (j - i) (arr.size - i)) (fun hs0 => Or.elim (a8 (j) (i)) (fun hs1 => lN [j, (arr.size), p, (min (j - i) (arr.size - i)), i, (j - i)] 0x22120099002852709cc309481 rfl hj hp (Nat.min_le_left (j - i) (arr.size - i)) hg (Nat.le_of_eq hs1)) (fun hs1 => lN [p, q, (min (j - i) (arr.size - i)), (j - i)] 0x2709cc13146129061 rfl hpq hq (Nat.min_le_left (j - i) (arr.size - i)) (Nat.le_of_eq hs1))) (fun hs0 => Or.elim (a8 (j) (i)) (fun hs1 => lN [j, (arr.size), p, (min (j - i) (arr.size - i)), i, (j - i)] 0x22120099002852709cc309481 rfl hj hp (Nat.min_le_left (j - i) (arr.size - i)) hg (Nat.le_of_eq hs1)) (fun hs1 => lN [p, q, (min (j - i) (arr.size - i)), (j - i)] 0x2709cc13146129061 rfl hpq hq (Nat.min_le_left (j - i) (arr.size - i)) (Nat.le_of_eq hs1)))), bo (by exact bP fun hg => Or.elim (bJ (j - i) (arr.size - i)) (fun hs0 => Or.elim (a8 (j) (i)) (fun hs1 => lN [j, (arr.size), q, (min (j - i) (arr.size - i)), i, (j - i)] 0x22120099002852709cc309481 rfl hj hq (Nat.min_le_left (j - i) (arr.size - i)) hg (Nat.le_of_eq hs1)) (fun hs1 => lN [p, q, (min (j - i) (arr.size - i)), (j - i)] 0x2709cc13146129061 rfl hpq hq (Nat.min_le_left (j - i) (arr.size - i)) (Nat.le_of_eq hs1))) (fun hs0 => Or.elim (a8 (j) (i)) (fun hs1 => lN [j, (arr.size), q, (min (j - i) (arr.size - i)), i, (j - i)] 0x22120099002852709cc309481 rfl hj hq (Nat.min_le_left (j - i) (arr.size - i)) hg (Nat.le_of_eq hs1)) (fun hs1 => lN [p, q, (min (j - i) (arr.size - i)), (j - i)] 0x2709cc13146129061 rfl hpq hq (Nat.min_le_left (j - i) (arr.size - i)) (Nat.le_of_eq hs1))))] at this
 simpa [Array.toList_extract, List.extract_eq_take_drop] using this
theorem bT {l r : List Keyed} (hl : hH key l) (hr : hH key r) (h : ∀ x ∈ l, ∀ y ∈ r, O.kle (key x) (key y)) : hH key (l ++ r) :=
 List.pairwise_append.mpr ⟨hl, hr, h⟩
theorem eH {left : Bool} {k : Keyed} {arr : Array Keyed} {base n : Nat} (hs : i6 key arr base (base + n)) :
  ∀ i j, i ≤ j → j < n → fF key left k arr (base + j) = true → fF key left k arr (base + i) = true := by
 intro i j hij hj h
 have hle := hs (base + i) (base + j) (by exact Nat.le_add_right _ _) (by exact Nat.add_le_add_left hij _) (by exact Nat.add_le_add_left hj _)
 cases left with
 | true => exact KeyOrd.klt_of_kle_of_klt hle h
 | false =>
  have h' : O.kle (tk key arr (base + j)) (key k) := by unfold KeyOrd.kle; simpa [fF] using h
  have : O.kle (tk key arr (base + i)) (key k) := KeyOrd.kle_trans hle h'
  have : O.blt (key k) (tk key arr (base + i)) = false := this
  simp [fF, this]
theorem dI {k : Keyed} {arr : Array Keyed} {i : Nat} : (fF key false k arr i = true → O.kle (tk key arr i) (key k)) ∧ (fF key false k arr i = false → O.klt (key k) (tk key arr i)) := by
 refine ⟨fun h => ?_, fun h => ?_⟩
 ·unfold KeyOrd.kle; simpa [fF] using h
 ·unfold KeyOrd.klt; simpa [fF] using h
theorem eI {k : Keyed} {arr : Array Keyed} {i : Nat} : (fF key true k arr i = true → O.klt (tk key arr i) (key k)) ∧ (fF key true k arr i = false → O.kle (key k) (tk key arr i)) :=
 ⟨fun h => h, fun h => h⟩
structure Good (key : Keyed → O.α) (a b m : Array Keyed) : Prop where
 perm : m.toList.Perm (a.toList ++ b.toList)
 srt : hH key m.toList
structure Mid (key : Keyed → O.α) (a b out : Array Keyed) (ia ib : Nat) : Prop where
 perm : (out.toList ++ (a.toList.drop ia ++ b.toList.drop ib)).Perm (a.toList ++ b.toList)
 srt : hH key out.toList
 low : ∀ x ∈ out.toList, (∀ i, ia ≤ i → i < a.size → O.kle (key x) (tk key a i)) ∧ (∀ j, ib ≤ j → j < b.size → O.kle (key x) (tk key b j))
variable {a b out : Array Keyed} {ia ib : Nat}
theorem oy {arr : Array Keyed} {i : Nat} (hi : i < arr.size) : arr.toList.drop i = arr[i] :: arr.toList.drop (i + 1) := by
 rw [List.drop_eq_getElem_cons (by simpa using hi)]
 simp
theorem oE {arr : Array Keyed} {i k : Nat} : arr.toList.drop i = (arr.extract i (i + k)).toList ++ arr.toList.drop (i + k) := by
 rw [Array.toList_extract, List.extract_eq_take_drop, show i + k - i = k by exact Nat.le_antisymm (aD fun hg => lN [(i + k - i), k, i] 0x10a3094c031001 rfl (ar (aD fun hg => lN [k, i] 0xa428061 rfl hg)) hg) (aD fun hg => lN [(i + k - i), k, i] 0x14830988029801 rfl (aq (i + k) (i)) hg), ← List.drop_drop, List.take_append_drop]
theorem Mid.pushB (h : Mid key a b out ia ib) (sb : hH key b.toList) (hi : ib < b.size) (hle : ∀ i, ia ≤ i → i < a.size → O.kle (tk key b ib) (tk key a i)) :
  Mid key a b (out.push b[ib]) ia (ib + 1) := by
 refine ⟨?_, ?_, fun x hx => ?_⟩
 ·refine List.Perm.trans ?_ h.perm
  rw [Array.toList_push, oy hi, List.append_assoc]
  refine List.Perm.append_left _ ?_
  rw [List.singleton_append]
  exact List.perm_middle.symm
 ·rw [Array.toList_push]
  refine bT h.srt (List.pairwise_singleton ..) fun x hx y hy => ?_
  rw [List.mem_singleton.mp hy, ← bo (key := key) hi]
  exact (h.low x hx).2 ib (Nat.le_refl _) hi
 ·rw [Array.toList_push] at hx
  rcases List.mem_append.mp hx with hx | hx
  ·exact ⟨(h.low x hx).1, fun j h1 h2 => (h.low x hx).2 j (by exact Nat.le_of_lt h1) h2⟩
  ·rw [List.mem_singleton.mp hx, ← bo (key := key) hi]
   exact ⟨hle, fun j h1 h2 => bS sb _ _ (by exact Nat.le_of_lt h1) h2⟩
theorem Mid.pushA (h : Mid key a b out ia ib) (sa : hH key a.toList) (hi : ia < a.size) (hle : ∀ j, ib ≤ j → j < b.size → O.kle (tk key a ia) (tk key b j)) :
  Mid key a b (out.push a[ia]) (ia + 1) ib := by
 refine ⟨?_, ?_, fun x hx => ?_⟩
 ·refine List.Perm.trans ?_ h.perm
  rw [Array.toList_push, oy hi, List.append_assoc]
  exact List.Perm.append_left _ (List.Perm.refl _)
 ·rw [Array.toList_push]
  refine bT h.srt (List.pairwise_singleton ..) fun x hx y hy => ?_
  rw [List.mem_singleton.mp hy, ← bo (key := key) hi]
  exact (h.low x hx).1 ia (Nat.le_refl _) hi
 ·rw [Array.toList_push] at hx
  rcases List.mem_append.mp hx with hx | hx
  ·exact ⟨fun i h1 h2 => (h.low x hx).1 i (by exact Nat.le_of_lt h1) h2, (h.low x hx).2⟩
  ·rw [List.mem_singleton.mp hx, ← bo (key := key) hi]
   exact ⟨fun j h1 h2 => bS sa _ _ (by exact Nat.le_of_lt h1) h2, hle⟩
theorem dg {arr : Array Keyed} {x : Keyed} {i j : Nat} (h : x ∈ (arr.extract i j).toList) : ∃ p, i ≤ p ∧ p < j ∧ p < arr.size ∧ key x = tk key arr p := by
 obtain ⟨p, hp, e⟩ := List.getElem_of_mem h
 simp only [Array.toList_extract, List.extract_eq_take_drop, List.length_take, List.length_drop, Array.length_toList] at hp
 refine ⟨i + p, by exact Nat.le_add_right _ _, by exact bP fun hg => Or.elim (bJ (j - i) (arr.size - i)) (fun hs0 => Or.elim (a8 (j) (i)) (fun hs1 => lN [p, (min (j - i) (arr.size - i)), i, j, (j - i)] 0x732001218070a0a129061 rfl hp (Nat.min_le_left (j - i) (arr.size - i)) hg (Nat.le_of_eq hs1)) (fun hs1 => lN [p, (min (j - i) (arr.size - i)), (j - i)] 0x26098a129061 rfl hp (Nat.min_le_left (j - i) (arr.size - i)) (Nat.le_of_eq hs1))) (fun hs0 => Or.elim (a8 (j) (i)) (fun hs1 => lN [p, (min (j - i) (arr.size - i)), i, j, (j - i)] 0x732001218070a0a129061 rfl hp (Nat.min_le_left (j - i) (arr.size - i)) hg (Nat.le_of_eq hs1)) (fun hs1 => lN [p, (min (j - i) (arr.size - i)), (j - i)] 0x26098a129061 rfl hp (Nat.min_le_left (j - i) (arr.size - i)) (Nat.le_of_eq hs1))), by exact bP fun hg => Or.elim (bJ (j - i) (arr.size - i)) (fun hs0 => Or.elim (a8 (arr.size) (i)) (fun hs1 => lN [p, (min (j - i) (arr.size - i)), i, (arr.size), (arr.size - i)] 0x732001218070a0a129061 rfl hp (Nat.min_le_right (j - i) (arr.size - i)) hg (Nat.le_of_eq hs1)) (fun hs1 => lN [p, (min (j - i) (arr.size - i)), (arr.size - i)] 0x26098a129061 rfl hp (Nat.min_le_right (j - i) (arr.size - i)) (Nat.le_of_eq hs1))) (fun hs0 => Or.elim (a8 (arr.size) (i)) (fun hs1 => lN [p, (min (j - i) (arr.size - i)), i, (arr.size), (arr.size - i)] 0x732001218070a0a129061 rfl hp (Nat.min_le_right (j - i) (arr.size - i)) hg (Nat.le_of_eq hs1)) (fun hs1 => lN [p, (min (j - i) (arr.size - i)), (arr.size - i)] 0x26098a129061 rfl hp (Nat.min_le_right (j - i) (arr.size - i)) (Nat.le_of_eq hs1))), ?_⟩
 rw [bo (by exact bP fun hg => Or.elim (bJ (j - i) (arr.size - i)) (fun hs0 => Or.elim (a8 (arr.size) (i)) (fun hs1 => lN [p, (min (j - i) (arr.size - i)), i, (arr.size), (arr.size - i)] 0x732001218070a0a129061 rfl hp (Nat.min_le_right (j - i) (arr.size - i)) hg (Nat.le_of_eq hs1)) (fun hs1 => lN [p, (min (j - i) (arr.size - i)), (arr.size - i)] 0x26098a129061 rfl hp (Nat.min_le_right (j - i) (arr.size - i)) (Nat.le_of_eq hs1))) (fun hs0 => Or.elim (a8 (arr.size) (i)) (fun hs1 => lN [p, (min (j - i) (arr.size - i)), i, (arr.size), (arr.size - i)] 0x732001218070a0a129061 rfl hp (Nat.min_le_right (j - i) (arr.size - i)) hg (Nat.le_of_eq hs1)) (fun hs1 => lN [p, (min (j - i) (arr.size - i)), (arr.size - i)] 0x26098a129061 rfl hp (Nat.min_le_right (j - i) (arr.size - i)) (Nat.le_of_eq hs1)))), ← e]
 simp [Array.toList_extract]
theorem Mid.appA (h : Mid key a b out ia ib) (sa : hH key a.toList) {k : Nat} (hi : ia + k ≤ a.size) (hle : ∀ i, i < k → ∀ j, ib ≤ j → j < b.size → O.kle (tk key a (ia + i)) (tk key b j)) :
  Mid key a b (out ++ a.extract ia (ia + k)) (ia + k) ib := by
 refine ⟨?_, ?_, fun x hx => ?_⟩
 ·refine List.Perm.trans ?_ h.perm
  rw [Array.toList_append, oE (arr := a) (i := ia) (k := k), List.append_assoc, List.append_assoc]
 ·rw [Array.toList_append]
  refine bT h.srt (da (fun p q _ h2 h3 => bS sa p q h2 (by exact Nat.le_trans h3 hi)) hi) fun x hx y hy => ?_
  obtain ⟨p, h1, h2, h3, e⟩ := dg (key := key) hy
  rw [e]
  exact (h.low x hx).1 p h1 h3
 ·rw [Array.toList_append] at hx
  rcases List.mem_append.mp hx with hx | hx
  ·exact ⟨fun i h1 h2 => (h.low x hx).1 i (by exact Nat.le_trans (Nat.le_add_right _ _) h1) h2, (h.low x hx).2⟩
  ·obtain ⟨p, h1, h2, h3, e⟩ := dg (key := key) hx
   rw [e]
   refine ⟨fun j h4 h5 => bS sa _ _ (by exact Nat.le_of_lt (Nat.lt_of_lt_of_le h2 h4)) h5, fun j h4 h5 => ?_⟩
   have := hle (p - ia) (by exact bP fun hg => lN [ia, k, p, (p - ia)] 0xe509887004a401861 rfl h2 (ar (aD fun hg => lN [ia, p] 0x10a309481 rfl h1 hg)) hg) j h4 h5
   rwa [show ia + (p - ia) = p by exact Nat.add_sub_cancel' h1] at this
theorem Mid.appB (h : Mid key a b out ia ib) (sb : hH key b.toList) {k : Nat} (hi : ib + k ≤ b.size) (hle : ∀ i, i < k → ∀ j, ia ≤ j → j < a.size → O.kle (tk key b (ib + i)) (tk key a j)) :
  Mid key a b (out ++ b.extract ib (ib + k)) ia (ib + k) := by
 refine ⟨?_, ?_, fun x hx => ?_⟩
 ·refine List.Perm.trans ?_ h.perm
  rw [Array.toList_append, oE (arr := b) (i := ib) (k := k), List.append_assoc]
  refine List.Perm.append_left _ ?_
  rw [← List.append_assoc, ← List.append_assoc]
  exact List.Perm.append_right _ List.perm_append_comm
 ·rw [Array.toList_append]
  refine bT h.srt (da (fun p q _ h2 h3 => bS sb p q h2 (by exact Nat.le_trans h3 hi)) hi) fun x hx y hy => ?_
  obtain ⟨p, h1, h2, h3, e⟩ := dg (key := key) hy
  rw [e]
  exact (h.low x hx).2 p h1 h3
 ·rw [Array.toList_append] at hx
  rcases List.mem_append.mp hx with hx | hx
  ·exact ⟨(h.low x hx).1, fun i h1 h2 => (h.low x hx).2 i (by exact Nat.le_trans (Nat.le_add_right _ _) h1) h2⟩
  ·obtain ⟨p, h1, h2, h3, e⟩ := dg (key := key) hx
   rw [e]
   refine ⟨fun j h4 h5 => ?_, fun j h4 h5 => bS sb _ _ (by exact Nat.le_of_lt (Nat.lt_of_lt_of_le h2 h4)) h5⟩
   have := hle (p - ib) (by exact bP fun hg => lN [ib, k, p, (p - ib)] 0xe509887004a401861 rfl h2 (ar (aD fun hg => lN [ib, p] 0x10a309481 rfl h1 hg)) hg) j h4 h5
   rwa [show ib + (p - ib) = p by exact Nat.add_sub_cancel' h1] at this
theorem dk {arr : Array Keyed} {i : Nat} : (arr.extract i arr.size).toList = arr.toList.drop i := by
 rw [Array.toList_extract, List.extract_eq_take_drop]
 exact List.take_of_length_le (by simp)
theorem Mid.done (h : Mid key a b out ia ib) (sa : hH key a.toList) (sb : hH key b.toList) (he : ib = b.size ∨ ia = a.size) :
  Good key a b (out ++ a.extract ia a.size ++ b.extract ib b.size) := by
 have p : (out.toList ++ a.toList.drop ia ++ b.toList.drop ib).Perm (a.toList ++ b.toList) := by rw [List.append_assoc]; exact h.perm
 refine ⟨by rw [Array.toList_append, Array.toList_append, dk, dk]; exact p, ?_⟩
 rw [Array.toList_append, Array.toList_append, dk, dk]
 refine bT (bT h.srt (sa.sublist (List.drop_sublist _ _)) fun x hx y hy => ?_) (sb.sublist (List.drop_sublist _ _)) fun x hx y hy => ?_
 ·obtain ⟨i, h1, h2, e⟩ := gn (key := key) hy
  rw [e]
  exact (h.low x hx).1 i h1 h2
 ·obtain ⟨i, h1, h2, e⟩ := gn (key := key) hy
  rw [e]
  rcases List.mem_append.mp hx with hx | hx
  ·exact (h.low x hx).2 i h1 h2
  ·obtain ⟨j, h3, h4, e2⟩ := gn (key := key) hx
   exact False.elim (Or.elim he (fun hs0 => lN [ib, (b.size), i] 0x85094c309881 rfl h1 h2 (Nat.le_of_eq (Eq.symm hs0))) (fun hs0 => lN [ia, (a.size), j] 0x85094c309881 rfl h3 h4 (Nat.le_of_eq (Eq.symm hs0))))
theorem Mid.last (h : Mid key a b out ia ib) (sa : hH key a.toList) (sb : hH key b.toList) (he : ia + 1 = a.size) (hl : ∀ j, j < b.size → O.kle (tk key b j) (tk key a (a.size - 1))) :
  Good key a b (out ++ b.extract ib b.size ++ a.extract ia a.size) := by
 have p : (out.toList ++ b.toList.drop ib ++ a.toList.drop ia).Perm (a.toList ++ b.toList) := by
  rw [List.append_assoc]
  exact (List.Perm.append_left _ List.perm_append_comm).trans h.perm
 refine ⟨by rw [Array.toList_append, Array.toList_append, dk, dk]; exact p, ?_⟩
 rw [Array.toList_append, Array.toList_append, dk, dk]
 refine bT (bT h.srt (sb.sublist (List.drop_sublist _ _)) fun x hx y hy => ?_) (sa.sublist (List.drop_sublist _ _)) fun x hx y hy => ?_
 ·obtain ⟨i, h1, h2, e⟩ := gn (key := key) hy
  rw [e]
  exact (h.low x hx).2 i h1 h2
 ·obtain ⟨i, h1, h2, e⟩ := gn (key := key) hy
  rw [e]
  rcases List.mem_append.mp hx with hx | hx
  ·exact (h.low x hx).1 i h1 h2
  ·obtain ⟨j, h3, h4, e2⟩ := gn (key := key) hx
   rw [e2, show i = a.size - 1 by exact Nat.le_antisymm (aD fun hg => lN [(a.size), i, (a.size - 1)] 0x2986130c8121461 rfl h2 (aq (a.size) (1)) hg) (aD fun hg => lN [ia, (a.size), i, (a.size - 1)] 0x1cc3094e30988120ca1 rfl (Nat.le_of_eq (Eq.symm he)) h1 (ar (aD fun hg => lN [ia, (a.size)] 0x210946129061 rfl (Nat.le_of_eq he) hg)) hg)]
   exact hl j h4
end pure
end Mine
end
noncomputable section
namespace Mine
open PySem PyProof.Rows
section walk
variable {prog : Program} {w : World} {A : Around} {E : Value → Shared → Prop} {s : Shared} {kd : SortKind} {O : KeyOrd} {key : Keyed → O.α} {a₀ : Array Keyed}
inductive LoD (key : Keyed → O.α) (a b : Array Keyed) {γ : Type} : Option (Array Keyed) × γ → Prop
 | mk (m : Array Keyed) (r : γ) (h : Good key a b m) : LoD key a b (some m, r)
inductive LoI (key : Keyed → O.α) (a b : Array Keyed) (x n : Nat) {γ : Type} : Option (Array Keyed) × Array Keyed × Nat × Nat × γ → Prop
 | mk (out : Array Keyed) (i j : Nat) (r : γ) (hM : Mid key a b out i j) (hi : i + 1 < a.size) (hj : j < b.size) (hr : (a.size - i) + (b.size - j) + x ≤ n) : LoI key a b x n (none, out, i, j, r)
theorem tK {st : SortSt} {arr : Array Keyed} {i : Nat} {Q : Keyed → SortSt → Prop} (hi : i < arr.size) (h : Q arr[i] st) : wpS (model prog w) A E s (elem' arr i) Q st := by
 rw [elem'_eq, getElem?_pos arr i hi]
 exact wpS_pure h
theorem bH {α : Type} {st : SortSt} {c : Prop} [Decidable c] {t e : StateT SortSt Sem α} {Q : α → SortSt → Prop} (h1 : c → wpS (model prog w) A E s t Q st) (h2 : ¬c → wpS (model prog w) A E s e Q st) :
  wpS (model prog w) A E s (if c then t else e) Q st := by
 by_cases h : c
 ·rw [if_pos h]; exact h1 h
 ·rw [if_neg h]; exact h2 h
theorem rX {α β : Type} {st : SortSt} {c : Prop} [Decidable c] {t e : StateT SortSt Sem α} {Q : α → SortSt → Prop} {F : β → StateT SortSt Sem α} (x y : β) (he : e = F x) (ht : t = F y) (key : ∀ z, wpS (model prog w) A E s (F z) Q st) :
  wpS (model prog w) A E s (if c then t else e) Q st := bH (fun _ => ht ▸ key y) (fun _ => he ▸ key x)
theorem lW {α β γ : Type} {st : SortSt} {c : Prop} [Decidable c] {t e : StateT SortSt Sem α} {Q : α → SortSt → Prop} {F : β → γ → StateT SortSt Sem α} (H : β → γ → Prop) (x : β) (y : γ) (he : e = F x y)
  (key : ∀ x' y', H x' y' → wpS (model prog w) A E s (F x' y') Q st) (h1 : c → (∀ x' y', H x' y' → wpS (model prog w) A E s (F x' y') Q st) → wpS (model prog w) A E s t Q st) (h2 : ¬c → H x y) :
  wpS (model prog w) A E s (if c then t else e) Q st := bH (fun h => h1 h key) (fun h => he ▸ key x y (h2 h))
theorem wI {st : SortSt} {a b : Array Keyed} {i j : Nat} {Q : Option Bool → SortSt → Prop} (hL : eV prog w A E s kd O key a₀) (ha : ∀ x ∈ a.toList, x ∈ a₀.toList) (hb : ∀ x ∈ b.toList, x ∈ a₀.toList)
  (hi : i < a.size) (hj : j < b.size) (hkd : kindOf st = kd) (h : Q (some (O.blt (tk key a i) (tk key b j))) st) : wpS (model prog w) A E s (lt' a[i] b[j]) Q st := by
 rw [bo hi, bo hj] at h
 exact hL _ _ (ha _ (by simp)) (hb _ (by simp)) _ _ hkd h
theorem bz {β : Type} {st : SortSt} {arr : Array Keyed} {i : Nat} {f : Keyed → StateT SortSt Sem β} {Q : β → SortSt → Prop} (hi : i < arr.size) (h : wpS (model prog w) A E s (f arr[i]) Q st) : wpS (model prog w) A E s (elem' arr i >>= f) Q st := wpS_bind (tK hi h)
theorem jB {β : Type} {st : SortSt} {a b : Array Keyed} {i j : Nat} {r : Bool} {f : Option Bool → StateT SortSt Sem β} {Q : β → SortSt → Prop} (hL : eV prog w A E s kd O key a₀) (ha : ∀ x ∈ a.toList, x ∈ a₀.toList) (hb : ∀ x ∈ b.toList, x ∈ a₀.toList)
  (hi : i < a.size) (hj : j < b.size) (hkd : kindOf st = kd) (hr : O.blt (tk key a i) (tk key b j) = r) (h : wpS (model prog w) A E s (f (some r)) Q st) : wpS (model prog w) A E s (elem' a i >>= fun x => elem' b j >>= fun y => lt' x y >>= f) Q st :=
 bz hi (bz hj (wpS_bind (wI hL ha hb hi hj hkd (hr ▸ h))))
theorem wJ {st : SortSt} {a b : Array Keyed} {Q : Array Keyed → SortSt → Prop} (hL : eV prog w A E s kd O key a₀) (ha : ∀ x ∈ a.toList, x ∈ a₀.toList) (hb : ∀ x ∈ b.toList, x ∈ a₀.toList)
  (sa : hH key a.toList) (sb : hH key b.toList) (na : 0 < a.size) (nb : 0 < b.size) (h1 : ∀ i, i < a.size → O.kle (tk key b 0) (tk key a i))
  (h2 : ∀ j, j < b.size → O.kle (tk key b j) (tk key a (a.size - 1))) (hkd : kindOf st = kd)
  (h : ∀ m st', Good key a b m → Same st st' → Q m st') : wpS (model prog w) A E s (n4 a b) Q st := by
 have ia : ∀ i j, i ≤ j → j < a.size → O.kle (tk key a i) (tk key a j) := bS sa
 have ib : ∀ i j, i ≤ j → j < b.size → O.kle (tk key b i) (tk key b j) := bS sb
 have m0 : Mid key a b #[b[0]] 0 1 := by
  have : Mid key a b #[] 0 0 := ⟨by simp, by simp, by simp⟩
  exact this.pushB sb nb fun i _ => h1 i
 have hSin : ∀ d n, d + n ≤ a.size → i6 key a d (d + n) := fun d n hd p q _ h4 h5 => ia _ _ h4 (by exact Nat.le_trans h5 hd)
 have hSib : ∀ d n, d + n ≤ b.size → i6 key b d (d + n) := fun d n hd p q _ h4 h5 => ib _ _ h4 (by exact Nat.le_trans h5 hd)
 unfold n4
 refine eo ?_
 refine bz nb ?_
 refine bH (fun e1 => ?_) (fun e1 => ?_)
 ·simp only [beq_iff_eq] at e1
  exact wpS_pure (h _ _ (m0.done sa sb (.inl e1)) Same.refl)
 refine bH (fun e2 => ?_) (fun e2 => ?_)
 ·simp only [beq_iff_eq] at e2
  exact wpS_pure (h _ _ (m0.last sa sb e2 h2) Same.refl)
 refine cI ?_
 refine dp (fun x c st' => Same st st' ∧ LoI key a b x (a.size + b.size) c) (fun c st' => Same st st' ∧ LoD key a b c) ?step ?fin ?init ?post
 case init =>
  simp only [beq_iff_eq] at e1 e2
  exact ⟨Same.refl, _, 0, 1, _, m0, by exact bP fun hg => Or.elim (Nat.lt_or_gt_of_ne e1) (fun hs0 => Or.elim (Nat.lt_or_gt_of_ne e2) (fun hs1 => lN [(a.size)] 0x100118c2008c81 rfl hg hs1) (fun hs1 => lN [(a.size)] 0x2320c2400461 rfl na hs1)) (fun hs0 => lN [(b.size)] 0x42120c2400461 rfl nb hs0), by exact bP fun hg => Or.elim (Nat.lt_or_gt_of_ne e1) (fun hs0 => lN [(b.size)] 0x102108c2108481 rfl hg hs0) (fun hs0 => lN [(b.size)] 0x42120c2400461 rfl nb hs0), by exact aD fun hg => lN [(a.size), (b.size), (b.size - 1)] 0x26200052006129861 rfl (ar (aD fun hg => lN [(b.size)] 0x42120c2400461 rfl nb hg)) hg⟩
 case fin =>
  rintro c st' ⟨hS, out, i, j, mg, hM, hi, hj, hx⟩
  exact And.intro (False.elim (lN [(a.size), (b.size), i, j, (a.size - i), (b.size - j), (max 0 (a.size + b.size))] 0x7480a1320040a8a4004a4029280002538c2430c61 rfl hi hj hx (Nat.le_max_right (0) (a.size + b.size)) (aq (a.size) (i)) (aq (b.size) (j)))) (False.elim (lN [(a.size), (b.size), i, j, (a.size - i), (b.size - j), (max 0 (a.size + b.size))] 0x7480a1320040a8a4004a4029280002538c2430c61 rfl hi hj hx (Nat.le_max_right (0) (a.size + b.size)) (aq (a.size) (i)) (aq (b.size) (j))))
 case post =>
  rintro K hK c st' ⟨hS, m, r, hG⟩
  subst hK
  exact wpS_pure (h m st' hG hS)
 case step =>
  rintro F hF x c st' ⟨hS, out, i, j, mg, hM, hi, hj, hr⟩
  clear e1 e2 m0
  subst hF
  dsimp only
  refine dp (fun y c st'' => st'' = st' ∧ LoI key a b y ((a.size - i) + (b.size - j)) c) (fun c st'' => st'' = st' ∧ (LoD key a b c ∨ LoI key a b 1 ((a.size - i) + (b.size - j)) c)) ?astep ?afin ⟨rfl, _, i, j, _, hM, hi, hj, by exact Nat.le_refl _⟩ ?apost
  case afin =>
   rintro c st'' ⟨rfl, out', i', j', ⟨p, q⟩, hM', hi', hj', hr'⟩
   exact ⟨rfl, .inr ⟨out', i', j', _, hM', hi', hj', by exact aD fun hg => lN [(a.size), (b.size), (a.size - i), (b.size - j), (a.size - i'), (b.size - j'), (max 0 (a.size + b.size))] 0x940067300615148009cc052500004a008c2400461 rfl na nb hr' (Nat.le_max_right (0) (a.size + b.size)) hg⟩⟩
  case astep =>
   rintro F hF y c st'' ⟨rfl, out', i', j', ⟨p, q⟩, hM', hi', hj', hr'⟩
   have hi1 : i' < a.size := by exact Nat.le_of_lt hi'
   cases hlt : O.blt (tk key b j') (tk key a i') with
   | true =>
    have hM2 := hM'.pushB sb hj' fun k h3 h4 => KeyOrd.kle_of_klt (KeyOrd.klt_of_klt_of_kle hlt (ia _ _ h3 h4))
    subst hF
    refine jB hL hb ha hj' hi1 (hS.kind.trans hkd) hlt ?_
    refine bz hj' ?_
    refine bH (fun e3 => ?_) (fun e3 => ?_)
    ·simp only [beq_iff_eq] at e3
     exact wpS_pure ⟨rfl, .inl ⟨_, _, hM2.done sa sb (.inl e3)⟩⟩
    simp only [beq_iff_eq] at e3
    have hj2 : j' + 1 < b.size := by exact bP fun hg => Or.elim (Nat.lt_or_gt_of_ne e3) (fun hs0 => lN [(b.size), j'] 0x428c6128c81 rfl hg hs0) (fun hs0 => lN [(b.size), j'] 0x51906121461 rfl hj' hs0)
    have hr2 : (a.size - i') + (b.size - (j' + 1)) + (y + 1) ≤ (a.size - i) + (b.size - j) := by exact aD fun hg => lN [(b.size), (a.size - i), (b.size - j), j', (a.size - i'), (b.size - j'), y, (b.size - (j' + 1))] 0x286b400062806121c6b004e9010262814940001 rfl hr' (aq (b.size) (j')) (ar (aD fun hg => lN [(b.size), j'] 0xa320c2428c61 rfl hj2 hg)) hg
    have hr3 : (a.size - i') + (b.size - (j' + 1)) + 1 ≤ (a.size - i) + (b.size - j) := by exact Nat.lt_of_le_of_lt (Nat.le_add_right _ _) hr2
    exact bH (fun _ => wpS_pure ⟨rfl, .inr ⟨_, _, _, _, hM2, hi', hj2, hr3⟩⟩) fun _ => wpS_pure ⟨rfl, _, _, _, _, hM2, hi', hj2, hr2⟩
   | false =>
    have hM2 := hM'.pushA sa hi1 fun k h3 h4 => KeyOrd.kle_trans (show O.kle _ _ from hlt) (ib _ _ h3 h4)
    subst hF
    refine jB hL hb ha hj' hi1 (hS.kind.trans hkd) hlt ?_
    refine bz hi1 ?_
    refine bH (fun e3 => ?_) (fun e3 => ?_)
    ·simp only [beq_iff_eq] at e3
     exact wpS_pure ⟨rfl, .inl ⟨_, _, hM2.last sa sb e3 h2⟩⟩
    simp only [beq_iff_eq] at e3
    have hi2 : i' + 1 + 1 < a.size := by exact bP fun hg => Or.elim (Nat.lt_or_gt_of_ne e3) (fun hs0 => lN [(a.size), i'] 0x10a318c2518c81 rfl hg hs0) (fun hs0 => lN [(a.size), i'] 0x146320c2428c61 rfl hi' hs0)
    have hr2 : (a.size - (i' + 1)) + (b.size - j') + (y + 1) ≤ (a.size - i) + (b.size - j) := by exact aD fun hg => lN [(a.size), (a.size - i), (b.size - j), i', (a.size - i'), (b.size - j'), y, (a.size - (i' + 1))] 0x2869580062806121c6b004e8010262814940001 rfl hr' (aq (a.size) (i')) (ar (aD fun hg => lN [(a.size), i'] 0x14641848518c61 rfl hi2 hg)) hg
    have hr3 : (a.size - (i' + 1)) + (b.size - j') + 1 ≤ (a.size - i) + (b.size - j) := by exact Nat.lt_of_le_of_lt (Nat.le_add_right _ _) hr2
    exact bH (fun _ => wpS_pure ⟨rfl, .inr ⟨_, _, _, _, hM2, hi2, hj', hr3⟩⟩) fun _ => wpS_pure ⟨rfl, _, _, _, _, hM2, hi2, hj', hr2⟩
  case apost =>
   rintro K hK c st'' ⟨rfl, ⟨m, r, hG⟩ | ⟨out', i', j', ⟨p, q⟩, hM', hi', hj', hr'⟩⟩
   ·subst hK
    exact wpS_pure ⟨hS, m, _, hG⟩
   subst hK
   dsimp only
   refine eo ?_
   refine dp (fun y c st3 => Same st st3 ∧ LoI key a b 1 ((a.size - i) + (b.size - j)) c) (fun c st3 => Same st st3 ∧ (LoD key a b c ∨ LoI key a b 1 ((a.size - i) + (b.size - j)) c)) ?gstep ?gfin ⟨hS, _, i', j', _, hM', hi', hj', hr'⟩ ?gpost
   case gfin =>
    rintro c st3 ⟨hS3, out', i', j', ⟨g, p, q⟩, hM', hi', hj', hr'⟩
    exact ⟨hS3, .inr ⟨out', i', j', _, hM', hi', hj', hr'⟩⟩
   case gpost =>
    rintro K hK c st3 ⟨hS3, ⟨m, r, hG⟩ | ⟨out', i', j', ⟨g, p, q⟩, hM', hi', hj', hr'⟩⟩
    ·subst hK
     exact wpS_pure ⟨hS3, m, _, hG⟩
    subst hK
    dsimp only
    refine dy ?_
    exact wpS_pure ⟨hS3.trans ⟨rfl, rfl, rfl, rfl⟩, _, _, _, _, hM', hi', hj', by exact aD fun hg => lN [(a.size), (b.size), (a.size - i), (b.size - j), x, (a.size - i'), (b.size - j')] 0x40d49000a400c273014900c252010730001 rfl hr hr' hg⟩
   case gstep =>
    clear hM' hi' hj' hr' hr hM hi hj hS
    generalize (a.size - i) + (b.size - j) = N
    rintro F hF y c st3 ⟨hS3, out', i', j', ⟨g, p, q⟩, hM', hi', hj', hr'⟩
    have hS4 : ∀ g', Same st (SortSt.mk' (kindOf st3) (arrOf st3) (pendingOf st3) g' (failedOf st3)) := fun g' => hS3.trans ⟨rfl, rfl, rfl, rfl⟩
    subst hF
    dsimp only
    refine' rX g (g - 1) ?he ?ht ?_
    case he => apply Eq.refl
    case ht => exact rfl
    intro g'
    refine dy ?_
    refine bz hj' ?_
    refine fJ fun K hK => dE (left := false) (n := a.size - i') (hint := 0) hL (hb _ (by simp)) ha (by exact aD fun hg => lN [(a.size), i', (a.size - i')] 0x18a020c2429801 rfl (ar (aD fun hg => lN [(a.size), i'] 0x520c2428c61 rfl hi' hg)) hg) (by exact bP fun hg => lN [(a.size), i', (a.size - i')] 0x1304a60102428c61 rfl hi' (aq (a.size) (i')) hg) (hS3.kind.trans hkd) (eH (hSin _ _ (by exact aD fun hg => lN [(a.size), i', (a.size - i')] 0x18a020c2429801 rfl (ar (aD fun hg => lN [(a.size), i'] 0x520c2428c61 rfl hi' hg)) hg))) fun k hk1 hk2 hk3 => ?_
    have hk2' : ∀ u, u < k → ∀ v, j' ≤ v → v < b.size → O.kle (tk key a (i' + u)) (tk key b v) := fun u h3 v h4 h5 =>
     KeyOrd.kle_trans (dI.1 (hk2 u h3)) (by rw [← bo (key := key) hj']; exact ib _ _ h4 h5)
    have hk3' : ∀ u, i' + k ≤ u → u < a.size → O.kle (tk key b j') (tk key a u) := fun u h3 h4 => by
     have := dI.2 (hk3 (u - i') (by exact aD fun hg => lN [i', k, u, (u - i')] 0xa7184870182629001 rfl h3 (aq (u) (i')) hg) (by exact bP fun hg => lN [(a.size), i', (a.size - i'), u, (u - i')] 0x8304e5400253008121c61 rfl h4 (aq (a.size) (i')) (ar (aD fun hg => lN [i', k, u] 0x430c2629001 rfl h3 hg)) hg))
     rw [show i' + (u - i') = u by exact Nat.le_antisymm (aD fun hg => lN [i', u, (u - i')] 0x188028c2521801 rfl (ar (aD fun hg => lN [i', k, u] 0x430c2629001 rfl h3 hg)) hg) (aD fun hg => lN [i', u, (u - i')] 0x14c400c24300a1 rfl (aq (u) (i')) hg), ← bo (key := key) hj'] at this
     exact KeyOrd.kle_of_klt this
    clear hk2 hk3
    subst hK
    dsimp only
    refine' lW (fun i2 o2 => Mid key a b o2 i2 j' ∧ i2 + 1 < a.size ∧ (a.size - i2) + (b.size - j') + 1 ≤ N ∧ ∀ u, i2 ≤ u → u < a.size → O.kle (tk key b j') (tk key a u)) i' out' ?he ?_ (fun hk K => ?_) (fun hk => ⟨hM', hi', hr', fun u h3 h4 => hk3' u (by rw [Nat.eq_zero_of_not_pos hk]; exact h3) h4⟩)
    case he => apply Eq.refl
    ·clear hM' hi' hr' hk1 hk2' hk3'
     rintro i2 o2 ⟨hMz, hz, hzr, hzb⟩
     refine bz hj' ?_
     refine bH (fun e5 => ?_) (fun e5 => ?_)
     ·simp only [beq_iff_eq] at e5
      exact wpS_pure ⟨hS4 _, .inl ⟨_, _, (hMz.pushB sb hj' hzb).done sa sb (.inl e5)⟩⟩
     refine bz (Nat.lt_of_succ_lt hz) ?_
     refine fJ fun K hK => dE (left := true) (n := b.size - (j' + 1)) (hint := 0) hL (ha _ (by simp)) hb (by simp only [beq_iff_eq] at e5; exact aD fun hg => lN [(b.size), j', (b.size - (j' + 1))] 0x628c041848519801 rfl (ar (aD fun hg => lN [(b.size), j'] 0x51906121461 rfl hj' hg)) hg) (by simp only [beq_iff_eq] at e5; exact bP fun hg => Or.elim (Nat.lt_or_gt_of_ne e5) (fun hs0 => lN [(b.size), j', (b.size - (j' + 1))] 0x10a318401304a330081 rfl (aq (b.size) (j' + 1)) hg hs0) (fun hs0 => lN [(b.size), j'] 0x51906121461 rfl hj' hs0)) (hS3.kind.trans hkd) (eH (hSib _ _ (by simp only [beq_iff_eq] at e5; exact aD fun hg => lN [(b.size), j', (b.size - (j' + 1))] 0x628c041848519801 rfl (ar (aD fun hg => lN [(b.size), j'] 0x51906121461 rfl hj' hg)) hg))) fun k2 l1 l2 l3 => ?_
     have hz' : i2 < a.size := Nat.lt_of_succ_lt hz
     have hM2 := hMz.pushB sb hj' hzb
     simp only [beq_iff_eq] at e5
     have l2' := fun u (h3 : u < k2) => eI.1 (l2 u h3)
     have l3' := fun u (h3 : k2 ≤ u) (h4 : u < b.size - (j' + 1)) => eI.2 (l3 u h3 h4)
     rw [← bo (key := key) hz'] at l2' l3'
     have hv : ∀ v, j' + 1 + k2 ≤ v → v < b.size → O.kle (tk key a i2) (tk key b v) := fun v h4 h5 => by
      have := l3' (v - (j' + 1)) (by exact aD fun hg => lN [j', k2, v, (v - (j' + 1))] 0x29c6120ce0304c520c01 rfl h4 (aq (v) (j' + 1)) hg) (by exact bP fun hg => lN [(b.size), j', (b.size - (j' + 1)), v, (v - (j' + 1))] 0x20c139468004a33008121c61 rfl h5 (aq (b.size) (j' + 1)) (ar (aD fun hg => lN [j', k2, v] 0x1066184c520c01 rfl h4 hg)) hg)
      rwa [show j' + 1 + (v - (j' + 1)) = v by exact Nat.le_antisymm (aD fun hg => lN [j', v, (v - (j' + 1))] 0x620c05184a419801 rfl (ar (aD fun hg => lN [j', k2, v] 0x1066184c520c01 rfl h4 hg)) hg) (aD fun hg => lN [j', v, (v - (j' + 1))] 0x53106018483300a1 rfl (aq (v) (j' + 1)) hg)] at this
     have hMm : 0 < k2 → _ := fun _ => hM2.appB sb (k := k2) (by exact aD fun hg => lN [(b.size), j', k2, (b.size - (j' + 1))] 0x3146020c2428ce009cc1 rfl l1 (ar (aD fun hg => lN [(b.size), j'] 0x51906121461 rfl hj' hg)) hg) fun u h3 v h4 h5 => KeyOrd.kle_trans (KeyOrd.kle_of_klt (l2' u h3)) (ia _ _ h4 h5)
     have hj1 : j' + 1 < b.size := by exact bP fun hg => Or.elim (Nat.lt_or_gt_of_ne e5) (fun hs0 => lN [(b.size), j'] 0x428c6128c81 rfl hg hs0) (fun hs0 => lN [(b.size), j'] 0x51906121461 rfl hj' hs0)
     have hm1 : (a.size - (i2 + 1)) + (b.size - (j' + 1)) + 1 ≤ N := by exact aD fun hg => lN [(a.size), (b.size), j', i2, (a.size - i2), (b.size - j'), N, (b.size - (j' + 1)), (a.size - (i2 + 1))] 0x2d801a86121c6c004a61ac013240509d002054940061 rfl hzr (aq (a.size) (i2)) (aq (b.size) (j')) (ar (aD fun hg => lN [(b.size), j'] 0xa320c2428c61 rfl hj1 hg)) (ar (aD fun hg => lN [(a.size), i2] 0xa320c2428c61 rfl hz hg)) hg
     clear l2 l3 l2' l3' e5
     subst hK
     dsimp only
     generalize j' + 1 = j1 at hM2 hv hMm hj1 hm1 l1 ⊢
     generalize o2.push b[j'] = o1 at hM2 hMm ⊢
     refine' lW (fun j2 o3 => Mid key a b o3 i2 j2 ∧ j2 < b.size ∧ (a.size - (i2 + 1)) + (b.size - j2) + 1 ≤ N ∧ ∀ v, j2 ≤ v → v < b.size → O.kle (tk key a i2) (tk key b v)) j1 o1 ?he ?_ (fun hk K => ?_) (fun hk => ⟨hM2, hj1, hm1, fun v h4 h5 => hv v (by rw [Nat.eq_zero_of_not_pos hk]; exact h4) h5⟩)
     case he => apply Eq.refl
     ·clear hM2 hv hMm hj1 hm1 l1
      rintro j2 o3 ⟨hM3, hj2, hm2, hw⟩
      have hM5 := hM3.pushA sa hz' hw
      refine bz hz' ?_
      refine bH (fun e7 => ?_) (fun e7 => ?_)
      ·simp only [beq_iff_eq] at e7
       exact wpS_pure ⟨hS4 _, .inl ⟨_, _, hM5.last sa sb e7 h2⟩⟩
      simp only [beq_iff_eq] at e7
      have hi5 : i2 + 1 + 1 < a.size := by exact bP fun hg => Or.elim (Nat.lt_or_gt_of_ne e7) (fun hs0 => lN [(a.size), i2] 0x10a318c2518c81 rfl hg hs0) (fun hs0 => lN [(a.size), i2] 0x146320c2428c61 rfl hz hs0)
      exact bH (fun _ => wpS_pure ⟨hS4 _, .inr ⟨_, _, _, _, hM5, hi5, hj2, hm2⟩⟩) fun _ => wpS_pure ⟨hS4 _, _, _, _, _, hM5, hi5, hj2, hm2⟩
     ·have hMm := hMm hk
      refine bH (fun e6 => ?_) (fun e6 => ?_)
      ·simp only [beq_iff_eq] at e6
       exact wpS_pure ⟨hS4 _, .inl ⟨_, _, hMm.done sa sb (.inl e6)⟩⟩
      simp only [beq_iff_eq] at e6
      exact K (j1 + k2) _ ⟨hMm, by exact bP fun hg => Or.elim (Nat.lt_or_gt_of_ne e6) (fun hs0 => lN [(b.size), j1, k2] 0x10c500c2628081 rfl hg hs0) (fun hs0 => lN [(b.size), j1, (b.size - j1), k2] 0xe501061214c0098e1 rfl l1 (ar (aD fun hg => lN [(b.size), j1] 0x2906121461 rfl hj1 hg)) hs0), by exact aD fun hg => Or.elim (Nat.lt_or_gt_of_ne e6) (fun hs0 => Or.elim (a8 (b.size) (j1 + k2)) (fun hs1 => lN [(b.size), N, j1, (a.size - (i2 + 1)), (b.size - j1), k2, (b.size - (j1 + k2))] 0x89301400a8e019461320040a401184a838061 rfl hm1 hk (aq (b.size) (j1)) hg (Nat.le_of_eq hs1)) (fun hs1 => lN [(b.size), j1, k2, (b.size - (j1 + k2))] 0x9c2431403098a038081 rfl (aq (b.size) (j1 + k2)) hs0 (Nat.le_of_eq hs1))) (fun hs0 => lN [(b.size), j1, (b.size - j1), k2] 0xe501061214c0098e1 rfl l1 (ar (aD fun hg => lN [(b.size), j1] 0x2906121461 rfl hj1 hg)) hs0), hv⟩
    ·have hMz := hM'.appA sa (k := k) (by exact aD fun hg => lN [(a.size), i', (a.size - i'), k] 0xe501061214c0098e1 rfl hk1 (ar (aD fun hg => lN [(a.size), i'] 0x520c2428c61 rfl hi' hg)) hg) hk2'
     refine bH (fun e3 => ?_) (fun e3 => ?_)
     ·simp only [beq_iff_eq] at e3
      exact wpS_pure ⟨hS4 _, .inl ⟨_, _, hMz.last sa sb e3 h2⟩⟩
     refine bH (fun e4 => ?_) (fun e4 => ?_)
     ·simp only [beq_iff_eq] at e4
      exact wpS_pure ⟨hS4 _, .inl ⟨_, _, hMz.done sa sb (.inr e4)⟩⟩
     simp only [beq_iff_eq] at e3 e4
     exact K (i' + k) _ ⟨hMz, by exact bP fun hg => Or.elim (Nat.lt_or_gt_of_ne e3) (fun hs0 => lN [(a.size), i', k] 0x431403184c500c81 rfl hg hs0) (fun hs0 => Or.elim (Nat.lt_or_gt_of_ne e4) (fun hs1 => lN [(a.size), i', k] 0x431403098a019061 rfl hs0 hs1) (fun hs1 => lN [(a.size), i', (a.size - i'), k] 0xe501061214c0098e1 rfl hk1 (ar (aD fun hg => lN [(a.size), i'] 0x520c2428c61 rfl hi' hg)) hs1)), by exact aD fun hg => Or.elim (Nat.lt_or_gt_of_ne e3) (fun hs0 => Or.elim (a8 (a.size) (i' + k)) (fun hs1 => lN [(a.size), i', (a.size - i'), (b.size - j'), N, k, (a.size - (i' + k))] 0x892814009d401a061298040a4011850730061 rfl hr' hk (aq (a.size) (i')) hg (Nat.le_of_eq hs1)) (fun hs1 => lN [(a.size), i', k, (a.size - (i' + k))] 0x13848628063098a038081 rfl (aq (a.size) (i' + k)) hs0 (Nat.le_of_eq hs1))) (fun hs0 => Or.elim (Nat.lt_or_gt_of_ne e4) (fun hs1 => lN [(a.size), i', k] 0x431403098a019061 rfl hs0 hs1) (fun hs1 => lN [(a.size), i', (a.size - i'), k] 0xe501061214c0098e1 rfl hk1 (ar (aD fun hg => lN [(a.size), i'] 0x520c2428c61 rfl hi' hg)) hs1)), hk3'⟩
end walk
end Mine
end
noncomputable section
namespace Mine
open PySem PyProof.Rows
section pure
variable {O : KeyOrd} {key : Keyed → O.α}
structure MidH (key : Keyed → O.α) (a b out : Array Keyed) (na nb : Nat) : Prop where
 perm : (a.toList.take na ++ (b.toList.take nb ++ out.toList.reverse)).Perm (a.toList ++ b.toList)
 srt : hH key out.toList.reverse
 high : ∀ x ∈ out.toList, (∀ i, i < na → i < a.size → O.kle (tk key a i) (key x)) ∧ (∀ j, j < nb → j < b.size → O.kle (tk key b j) (key x))
variable {a b out : Array Keyed} {na nb : Nat}
theorem nE {arr : Array Keyed} {i : Nat} (h0 : 0 < i) (hi : i ≤ arr.size) : arr.toList.take i = arr.toList.take (i - 1) ++ [arr[i - 1]] := by
 obtain ⟨k, rfl⟩ : ∃ k, i = k + 1 := ⟨i - 1, by exact (Nat.sub_add_cancel h0).symm⟩
 rw [List.take_add_one, List.getElem?_eq_getElem (by simpa using (by exact hi : k < arr.size))]
 simp
theorem ic {arr : Array Keyed} {i j : Nat} (hij : i ≤ j) : arr.toList.take j = arr.toList.take i ++ (arr.extract i j).toList := by
 rw [Array.toList_extract, List.extract_eq_take_drop]
 obtain ⟨k, rfl⟩ : ∃ k, j = i + k := ⟨j - i, by exact Nat.le_antisymm (aD fun hg => lN [i, j, (j - i)] 0x14c400c24300a1 rfl (aq (j) (i)) hg) (aD fun hg => lN [i, j, (j - i)] 0x188028c2521801 rfl (ar (aD fun hg => lN [i, j] 0x10a309481 rfl hij hg)) hg)⟩
 rw [show i + k - i = k by exact Nat.le_antisymm (aD fun hg => lN [i, k, (i + k - i)] 0x18a30948021801 rfl (ar (aD fun hg => lN [i, k] 0x10a400c2520081 rfl hij hg)) hg) (aD fun hg => lN [i, k, (i + k - i)] 0x14c3090c029001 rfl (aq (i + k) (i)) hg), List.take_add]
theorem MidH.pushA (h : MidH key a b out na nb) (sa : hH key a.toList) (h0 : 0 < na) (hi : na ≤ a.size) (hle : ∀ j, j < nb → j < b.size → O.kle (tk key b j) (tk key a (na - 1))) :
  MidH key a b (out.push a[na - 1]) (na - 1) nb := by
 have hi1 : na - 1 < a.size := by exact Nat.le_trans (Nat.sub_lt h0 Nat.one_pos) hi
 refine ⟨?_, ?_, fun x hx => ?_⟩
 ·refine List.Perm.trans ?_ h.perm
  rw [Array.toList_push, nE h0 hi, List.append_assoc]
  refine List.Perm.append_left _ ?_
  rw [List.reverse_append, List.reverse_singleton, List.singleton_append, List.singleton_append]
  exact List.perm_middle
 ·rw [Array.toList_push, List.reverse_append, List.reverse_singleton]
  refine bT (List.pairwise_singleton ..) h.srt fun x hx y hy => ?_
  rw [List.mem_singleton.mp hx, ← bo (key := key) hi1]
  exact (h.high y (List.mem_reverse.mp hy)).1 _ (by exact Nat.sub_lt h0 Nat.one_pos) hi1
 ·rw [Array.toList_push] at hx
  rcases List.mem_append.mp hx with hx | hx
  ·exact ⟨fun i h1 h2 => (h.high x hx).1 i (by exact bP fun hg => lN [na, (na - 1), i] 0x18812146129861 rfl h1 (ar (aD fun hg => lN [na] 0x42120c2400461 rfl h0 hg)) hg) h2, (h.high x hx).2⟩
  ·rw [List.mem_singleton.mp hx, ← bo (key := key) hi1]
   exact ⟨fun i h1 h2 => bS sa _ _ (by exact Nat.le_of_lt h1) (by exact hi1), hle⟩
theorem MidH.pushB (h : MidH key a b out na nb) (sb : hH key b.toList) (h0 : 0 < nb) (hi : nb ≤ b.size) (hle : ∀ i, i < na → i < a.size → O.kle (tk key a i) (tk key b (nb - 1))) :
  MidH key a b (out.push b[nb - 1]) na (nb - 1) := by
 have hi1 : nb - 1 < b.size := by exact Nat.le_trans (Nat.sub_lt h0 Nat.one_pos) hi
 refine ⟨?_, ?_, fun x hx => ?_⟩
 ·refine List.Perm.trans ?_ h.perm
  rw [Array.toList_push, nE h0 hi]
  refine List.Perm.append_left _ ?_
  rw [List.reverse_append, List.reverse_singleton, List.append_assoc]
 ·rw [Array.toList_push, List.reverse_append, List.reverse_singleton]
  refine bT (List.pairwise_singleton ..) h.srt fun x hx y hy => ?_
  rw [List.mem_singleton.mp hx, ← bo (key := key) hi1]
  exact (h.high y (List.mem_reverse.mp hy)).2 _ (by exact Nat.sub_lt h0 Nat.one_pos) hi1
 ·rw [Array.toList_push] at hx
  rcases List.mem_append.mp hx with hx | hx
  ·exact ⟨(h.high x hx).1, fun i h1 h2 => (h.high x hx).2 i (by exact bP fun hg => lN [nb, (nb - 1), i] 0x18812146129861 rfl h1 (ar (aD fun hg => lN [nb] 0x42120c2400461 rfl h0 hg)) hg) h2⟩
  ·rw [List.mem_singleton.mp hx, ← bo (key := key) hi1]
   exact ⟨hle, fun i h1 h2 => bS sb _ _ (by exact Nat.le_of_lt h1) (by exact hi1)⟩
theorem MidH.appA (h : MidH key a b out na nb) (sa : hH key a.toList) {k : Nat} (hk : k ≤ na) (hi : na ≤ a.size) (hle : ∀ i, k ≤ i → i < na → ∀ j, j < nb → j < b.size → O.kle (tk key b j) (tk key a i)) :
  MidH key a b (out ++ (a.extract k na).reverse) k nb := by
 refine ⟨?_, ?_, fun x hx => ?_⟩
 ·refine List.Perm.trans ?_ h.perm
  rw [Array.toList_append, Array.toList_reverse, List.reverse_append, List.reverse_reverse, ic hk, List.append_assoc]
  refine List.Perm.append_left _ ?_
  rw [← List.append_assoc, ← List.append_assoc]
  exact List.Perm.append_right _ List.perm_append_comm
 ·rw [Array.toList_append, Array.toList_reverse, List.reverse_append, List.reverse_reverse]
  refine bT (da (fun p q _ h2 h3 => bS sa p q h2 (by exact Nat.le_trans h3 hi)) hi) h.srt fun x hx y hy => ?_
  obtain ⟨p, h1, h2, h3, e⟩ := dg (key := key) hx
  rw [e]
  exact (h.high y (List.mem_reverse.mp hy)).1 p h2 h3
 ·rw [Array.toList_append, Array.toList_reverse] at hx
  rcases List.mem_append.mp hx with hx | hx
  ·exact ⟨fun i h1 h2 => (h.high x hx).1 i (by exact Nat.le_trans h1 hk) h2, (h.high x hx).2⟩
  ·obtain ⟨p, h1, h2, h3, e⟩ := dg (key := key) (List.mem_reverse.mp hx)
   rw [e]
   exact ⟨fun j h4 h5 => bS sa _ _ (by exact Nat.le_of_lt (Nat.lt_of_lt_of_le h4 h1)) h3, fun j h4 h5 => hle p h1 h2 j h4 h5⟩
theorem MidH.appB (h : MidH key a b out na nb) (sb : hH key b.toList) {k : Nat} (hk : k ≤ nb) (hi : nb ≤ b.size) (hle : ∀ i, k ≤ i → i < nb → ∀ j, j < na → j < a.size → O.kle (tk key a j) (tk key b i)) :
  MidH key a b (out ++ (b.extract k nb).reverse) na k := by
 refine ⟨?_, ?_, fun x hx => ?_⟩
 ·refine List.Perm.trans ?_ h.perm
  rw [Array.toList_append, Array.toList_reverse, List.reverse_append, List.reverse_reverse, ic hk]
  refine List.Perm.append_left _ ?_
  rw [List.append_assoc]
 ·rw [Array.toList_append, Array.toList_reverse, List.reverse_append, List.reverse_reverse]
  refine bT (da (fun p q _ h2 h3 => bS sb p q h2 (by exact Nat.le_trans h3 hi)) hi) h.srt fun x hx y hy => ?_
  obtain ⟨p, h1, h2, h3, e⟩ := dg (key := key) hx
  rw [e]
  exact (h.high y (List.mem_reverse.mp hy)).2 p h2 h3
 ·rw [Array.toList_append, Array.toList_reverse] at hx
  rcases List.mem_append.mp hx with hx | hx
  ·exact ⟨(h.high x hx).1, fun i h1 h2 => (h.high x hx).2 i (by exact Nat.le_trans h1 hk) h2⟩
  ·obtain ⟨p, h1, h2, h3, e⟩ := dg (key := key) (List.mem_reverse.mp hx)
   rw [e]
   exact ⟨fun j h4 h5 => hle p h1 h2 j h4 h5, fun j h4 h5 => bS sb _ _ (by exact Nat.le_of_lt (Nat.lt_of_lt_of_le h4 h1)) h3⟩
theorem dj {arr : Array Keyed} {i : Nat} : (arr.extract 0 i).toList = arr.toList.take i := by
 rw [Array.toList_extract, List.extract_eq_take_drop]
 simp
theorem MidH.done (h : MidH key a b out na nb) (sa : hH key a.toList) (sb : hH key b.toList) (he : na = 0 ∨ nb = 0) :
  Good key a b (a.extract 0 na ++ b.extract 0 nb ++ out.reverse) := by
 refine ⟨by rw [Array.toList_append, Array.toList_append, dj, dj, Array.toList_reverse, List.append_assoc]; exact h.perm, ?_⟩
 rw [Array.toList_append, Array.toList_append, dj, dj, Array.toList_reverse]
 refine bT (bT (sa.sublist (List.take_sublist _ _)) (sb.sublist (List.take_sublist _ _)) fun x hx y hy => ?_) h.srt fun x hx y hy => ?_
 ·obtain ⟨i, h1, h2, e⟩ := di (key := key) hy
  obtain ⟨j, h3, h4, e2⟩ := di (key := key) hx
  exact False.elim (Or.elim he (fun hs0 => lN [na, j] 0x48121461 rfl h3 (Nat.le_of_eq hs0)) (fun hs0 => lN [nb, i] 0x48121461 rfl h1 (Nat.le_of_eq hs0)))
 ·have hy' := List.mem_reverse.mp hy
  rcases List.mem_append.mp hx with hx | hx
  ·obtain ⟨i, h1, h2, e⟩ := di (key := key) hx
   rw [e]
   exact (h.high y hy').1 i h1 h2
  ·obtain ⟨i, h1, h2, e⟩ := di (key := key) hx
   rw [e]
   exact (h.high y hy').2 i h1 h2
theorem MidH.first (h : MidH key a b out na nb) (sa : hH key a.toList) (sb : hH key b.toList) (he : nb = 1) (hl : ∀ i, i < a.size → O.kle (tk key b 0) (tk key a i)) :
  Good key a b (b.extract 0 nb ++ a.extract 0 na ++ out.reverse) := by
 refine ⟨?_, ?_⟩
 ·rw [Array.toList_append, Array.toList_append, dj, dj, Array.toList_reverse]
  refine List.Perm.trans ?_ h.perm
  rw [← List.append_assoc]
  exact List.Perm.append_right _ List.perm_append_comm
 rw [Array.toList_append, Array.toList_append, dj, dj, Array.toList_reverse]
 refine bT (bT (sb.sublist (List.take_sublist _ _)) (sa.sublist (List.take_sublist _ _)) fun x hx y hy => ?_) h.srt fun x hx y hy => ?_
 ·obtain ⟨i, h1, h2, e⟩ := di (key := key) hy
  obtain ⟨j, h3, h4, e2⟩ := di (key := key) hx
  rw [e, e2, show j = 0 by exact Nat.le_antisymm (aD fun hg => lN [nb, j] 0xa008c2428c2108481 rfl (Nat.le_of_eq he) h3 hg) (aD fun hg => lN [j] 0x9061 rfl hg)]
  exact hl i h2
 ·have hy' := List.mem_reverse.mp hy
  rcases List.mem_append.mp hx with hx | hx
  ·obtain ⟨i, h1, h2, e⟩ := di (key := key) hx
   rw [e]
   exact (h.high y hy').2 i h1 h2
  ·obtain ⟨i, h1, h2, e⟩ := di (key := key) hx
   rw [e]
   exact (h.high y hy').1 i h1 h2
end pure
end Mine
end
noncomputable section
namespace Mine
open PySem PyProof.Rows
section walk
variable {prog : Program} {w : World} {A : Around} {E : Value → Shared → Prop} {s : Shared} {kd : SortKind} {O : KeyOrd} {key : Keyed → O.α} {a₀ : Array Keyed}
inductive HiI (key : Keyed → O.α) (a b : Array Keyed) (x n : Nat) {γ : Type} : Option (Array Keyed) × Nat × Nat × Array Keyed × γ → Prop
 | mk (i j : Nat) (out : Array Keyed) (r : γ) (hM : MidH key a b out i j) (hi : 0 < i) (hi2 : i ≤ a.size) (hj : 1 < j) (hj2 : j ≤ b.size) (hr : i + j + x ≤ n) : HiI key a b x n (none, i, j, out, r)
theorem wK {st : SortSt} {a b : Array Keyed} {Q : Array Keyed → SortSt → Prop} (hL : eV prog w A E s kd O key a₀) (ha : ∀ x ∈ a.toList, x ∈ a₀.toList) (hb : ∀ x ∈ b.toList, x ∈ a₀.toList)
  (sa : hH key a.toList) (sb : hH key b.toList) (na : 0 < a.size) (nb : 0 < b.size) (h1 : ∀ i, i < a.size → O.kle (tk key b 0) (tk key a i))
  (h2 : ∀ j, j < b.size → O.kle (tk key b j) (tk key a (a.size - 1))) (hkd : kindOf st = kd)
  (h : ∀ m st', Good key a b m → Same st st' → Q m st') : wpS (model prog w) A E s (n5 a b) Q st := by
 have ia : ∀ i j, i ≤ j → j < a.size → O.kle (tk key a i) (tk key a j) := bS sa
 have ib : ∀ i j, i ≤ j → j < b.size → O.kle (tk key b i) (tk key b j) := bS sb
 have m0 : MidH key a b #[a[a.size - 1]] (a.size - 1) b.size := by
  have : MidH key a b #[] a.size b.size := ⟨by rw [List.take_of_length_le (by simp), List.take_of_length_le (by simp)]; simp, by simp, by simp⟩
  exact this.pushA sa na (Nat.le_refl _) fun j _ => h2 j
 have hSin : ∀ n, 0 + n ≤ a.size → i6 key a 0 (0 + n) := fun n hd p q _ h4 h5 => ia _ _ h4 (by exact Nat.le_trans h5 hd)
 have hSib : ∀ n, 0 + n ≤ b.size → i6 key b 0 (0 + n) := fun n hd p q _ h4 h5 => ib _ _ h4 (by exact Nat.le_trans h5 hd)
 unfold n5
 refine eo ?_
 refine bz (by exact Nat.sub_lt na Nat.one_pos : a.size - 1 < a.size) ?_
 refine bH (fun e1 => ?_) (fun e1 => ?_)
 ·simp only [beq_iff_eq] at e1
  exact wpS_pure (h _ _ (m0.done sa sb (.inl e1)) Same.refl)
 refine bH (fun e2 => ?_) (fun e2 => ?_)
 ·simp only [beq_iff_eq] at e2
  exact wpS_pure (h _ _ (m0.first sa sb e2 h1) Same.refl)
 refine cI ?_
 refine dp (fun x c st' => Same st st' ∧ HiI key a b x (a.size + b.size) c) (fun c st' => Same st st' ∧ LoD key a b c) ?step ?fin ?init ?post
 case init =>
  simp only [beq_iff_eq] at e1 e2
  exact ⟨Same.refl, _, _, _, _, m0, by exact Nat.pos_of_ne_zero e1, by exact Nat.sub_le _ _, by exact bP fun hg => Or.elim (Nat.lt_or_gt_of_ne e1) (fun hs0 => lN [(a.size), (a.size - 1)] 0x128c251902400461 rfl na (aq (a.size) (1)) hs0) (fun hs0 => Or.elim (Nat.lt_or_gt_of_ne e2) (fun hs1 => lN [(b.size)] 0x42120c2400461 rfl nb hs1) (fun hs1 => lN [(b.size)] 0x102108c2108481 rfl hg hs1)), by exact Nat.le_refl _, by exact aD fun hg => lN [(a.size), (b.size), (a.size - 1)] 0x25300052006121861 rfl (ar (aD fun hg => lN [(a.size)] 0x42120c2400461 rfl na hg)) hg⟩
 case fin =>
  rintro c st' ⟨hS, i, j, out, mg, hM, hi, hi2, hj, hj2, hx⟩
  exact And.intro (False.elim (lN [(a.size), (b.size), i, j, (max 0 (a.size + b.size))] 0x829001290083980009c2108c2600461 rfl hi hj hx (Nat.le_max_right (0) (a.size + b.size)))) (False.elim (lN [(a.size), (b.size), i, j, (max 0 (a.size + b.size))] 0x829001290083980009c2108c2600461 rfl hi hj hx (Nat.le_max_right (0) (a.size + b.size))))
 case post =>
  rintro K hK c st' ⟨hS, m, r, hG⟩
  subst hK
  exact wpS_pure (h m st' hG hS)
 case step =>
  rintro F hF x c st' ⟨hS, i, j, out, mg, hM, hi, hi2, hj, hj2, hr⟩
  clear e1 e2 m0
  subst hF
  dsimp only
  refine dp (fun y c st'' => st'' = st' ∧ HiI key a b y (i + j) c) (fun c st'' => st'' = st' ∧ (LoD key a b c ∨ HiI key a b 1 (i + j) c)) ?astep ?afin ⟨rfl, i, j, _, _, hM, hi, hi2, hj, hj2, by exact Nat.le_refl _⟩ ?apost
  case afin =>
   rintro c st'' ⟨rfl, i', j', out', ⟨p, q⟩, hM', hi', hi2', hj', hj2', hr'⟩
   exact ⟨rfl, .inr ⟨i', j', out', _, hM', hi', hi2', hj', hj2', by exact aD fun hg => lN [(a.size), (b.size), i, j, i', j', (max 0 (a.size + b.size))] 0x28a4004e60292800029084230a001184a7090c1 rfl hi2 hj2 hi' hj' hr' (Nat.le_max_right (0) (a.size + b.size))⟩⟩
  case astep =>
   rintro F hF y c st'' ⟨rfl, i', j', out', ⟨p, q⟩, hM', hi', hi2', hj', hj2', hr'⟩
   have hia : i' - 1 < a.size := by exact Nat.le_trans (Nat.sub_lt hi' Nat.one_pos) hi2'
   have hjb : j' - 1 < b.size := by exact bP fun hg => lN [(b.size), j', (j' - 1)] 0xc4094c3090a1 rfl hj2' (ar (aD fun hg => lN [j'] 0x84241848108461 rfl hj' hg)) hg
   cases hlt : O.blt (tk key b (j' - 1)) (tk key a (i' - 1)) with
   | true =>
    have hM2 := hM'.pushA sa hi' hi2' fun k h3 h4 => KeyOrd.kle_trans (ib k (j' - 1) (by exact aD fun hg => lN [j', (j' - 1), k] 0x3146128c8121861 rfl h3 (aq (j') (1)) hg) hjb) (KeyOrd.kle_of_klt hlt)
    subst hF
    refine jB hL hb ha hjb hia (hS.kind.trans hkd) hlt ?_
    refine bz hia ?_
    refine bH (fun e3 => ?_) (fun e3 => ?_)
    ·simp only [beq_iff_eq] at e3
     exact wpS_pure ⟨rfl, .inl ⟨_, _, hM2.done sa sb (.inl e3)⟩⟩
    simp only [beq_iff_eq] at e3
    have hi3 : 0 < i' - 1 := Nat.pos_of_ne_zero e3
    have hr2 : i' - 1 + j' + (y + 1) ≤ i + j := by exact aD fun hg => lN [i, j, i', j', y, (i' - 1)] 0x40ce9000a400c2648c252010730001 rfl hr' (ar (aD fun hg => lN [i'] 0x42120c2400461 rfl hi' hg)) hg
    have hr3 : i' - 1 + j' + 1 ≤ i + j := by exact Nat.lt_of_le_of_lt (Nat.le_add_right _ _) hr2
    exact bH (fun _ => wpS_pure ⟨rfl, .inr ⟨_, _, _, _, hM2, hi3, Nat.le_of_lt hia, hj', hj2', hr3⟩⟩) fun _ => wpS_pure ⟨rfl, _, _, _, _, hM2, hi3, Nat.le_of_lt hia, hj', hj2', hr2⟩
   | false =>
    have hM2 := hM'.pushB sb (by exact Nat.le_of_lt hj') hj2' fun k h3 h4 => KeyOrd.kle_trans (ia k (i' - 1) (by exact aD fun hg => lN [i', (i' - 1), k] 0x3146128c8121861 rfl h3 (aq (i') (1)) hg) hia) (show O.kle _ _ from hlt)
    subst hF
    refine jB hL hb ha hjb hia (hS.kind.trans hkd) hlt ?_
    refine bz hjb ?_
    refine bH (fun e3 => ?_) (fun e3 => ?_)
    ·simp only [beq_iff_eq] at e3
     exact wpS_pure ⟨rfl, .inl ⟨_, _, hM2.first sa sb e3 h1⟩⟩
    simp only [beq_iff_eq] at e3
    have hj3 : 1 < j' - 1 := by exact bP fun hg => Or.elim (Nat.lt_or_gt_of_ne e3) (fun hs0 => lN [j', (j' - 1)] 0x8425184a32048108461 rfl hj' (aq (j') (1)) hs0) (fun hs0 => lN [(j' - 1)] 0x102108c2108481 rfl hg hs0)
    have hr2 : i' + (j' - 1) + (y + 1) ≤ i + j := by exact aD fun hg => lN [i, j, i', j', y, (j' - 1)] 0x40d26000a400c2748c252010730001 rfl hr' (ar (aD fun hg => lN [j'] 0x84241848108461 rfl hj' hg)) hg
    have hr3 : i' + (j' - 1) + 1 ≤ i + j := by exact Nat.lt_of_le_of_lt (Nat.le_add_right _ _) hr2
    exact bH (fun _ => wpS_pure ⟨rfl, .inr ⟨_, _, _, _, hM2, hi', hi2', hj3, Nat.le_of_lt hjb, hr3⟩⟩) fun _ => wpS_pure ⟨rfl, _, _, _, _, hM2, hi', hi2', hj3, Nat.le_of_lt hjb, hr2⟩
  case apost =>
   rintro K hK c st'' ⟨rfl, ⟨m, r, hG⟩ | ⟨i', j', out', ⟨p, q⟩, hM', hi', hi2', hj', hj2', hr'⟩⟩
   ·subst hK
    exact wpS_pure ⟨hS, m, _, hG⟩
   subst hK
   dsimp only
   refine eo ?_
   refine dp (fun y c st3 => Same st st3 ∧ HiI key a b 1 (i + j) c) (fun c st3 => Same st st3 ∧ (LoD key a b c ∨ HiI key a b 1 (i + j) c)) ?gstep ?gfin ⟨hS, i', j', _, _, hM', hi', hi2', hj', hj2', hr'⟩ ?gpost
   case gfin =>
    rintro c st3 ⟨hS3, i', j', out', ⟨g, p, q⟩, hM', hi', hi2', hj', hj2', hr'⟩
    exact ⟨hS3, .inr ⟨i', j', out', _, hM', hi', hi2', hj', hj2', hr'⟩⟩
   case gpost =>
    rintro K hK c st3 ⟨hS3, ⟨m, r, hG⟩ | ⟨i', j', out', ⟨g, p, q⟩, hM', hi', hi2', hj', hj2', hr'⟩⟩
    ·subst hK
     exact wpS_pure ⟨hS3, m, _, hG⟩
    subst hK
    dsimp only
    refine dy ?_
    exact wpS_pure ⟨hS3.trans ⟨rfl, rfl, rfl, rfl⟩, _, _, _, _, hM', hi', hi2', hj', hj2', by exact aD fun hg => lN [(a.size), (b.size), i, j, x, i', j'] 0x40d49000a400c273014900c252010730001 rfl hr hr' hg⟩
   case gstep =>
    clear hM' hi' hj' hr' hi2' hj2' hr hM hi hi2 hj hj2 hS
    generalize i + j = N
    rintro F hF y c st3 ⟨hS3, i', j', out', ⟨g, p, q⟩, hM', hi', hi2', hj', hj2', hr'⟩
    have hjb : j' - 1 < b.size := by exact bP fun hg => lN [(b.size), j', (j' - 1)] 0xc4094c3090a1 rfl hj2' (ar (aD fun hg => lN [j'] 0x84241848108461 rfl hj' hg)) hg
    have hS4 : ∀ g', Same st (SortSt.mk' (kindOf st3) (arrOf st3) (pendingOf st3) g' (failedOf st3)) := fun g' => hS3.trans ⟨rfl, rfl, rfl, rfl⟩
    subst hF
    dsimp only
    refine' rX g (g - 1) ?he ?ht ?_
    case he => apply Eq.refl
    case ht => exact rfl
    intro g'
    refine dy ?_
    refine bz hjb ?_
    refine fJ fun K hK => dE (left := false) (n := i') (hint := i' - 1) hL (hb _ (by simp)) ha (by exact aD fun hg => lN [(a.size), i'] 0xa008083090a1 rfl hi2' hg) (by exact Nat.sub_lt hi' Nat.one_pos) (hS3.kind.trans hkd) (eH (hSin _ (by exact aD fun hg => lN [(a.size), i'] 0xa008083090a1 rfl hi2' hg))) fun k hk1 hk2 hk3 => ?_
    have hk2' : ∀ u, u < k → u < a.size → O.kle (tk key a u) (tk key b (j' - 1)) := fun u h3 h4 => by
     have := dI.1 (hk2 u h3)
     rwa [Nat.zero_add, ← bo (key := key) hjb] at this
    have hk3' : ∀ u, k ≤ u → u < i' → ∀ v, v < j' → v < b.size → O.kle (tk key b v) (tk key a u) := fun u h3 h4 v h5 h6 => by
     have := dI.2 (hk3 u h3 h4)
     rw [Nat.zero_add, ← bo (key := key) hjb] at this
     exact KeyOrd.kle_trans (ib v (j' - 1) (by exact aD fun hg => lN [j', (j' - 1), v] 0x3146128c8121861 rfl h5 (aq (j') (1)) hg) hjb) (KeyOrd.kle_of_klt this)
    clear hk2 hk3
    subst hK
    dsimp only
    generalize hd1 : i' - k = d1
    refine' lW (fun i2 o2 => MidH key a b o2 i2 j' ∧ 0 < i2 ∧ i2 ≤ a.size ∧ i2 + j' + 1 ≤ N ∧ ∀ u, u < i2 → u < a.size → O.kle (tk key a u) (tk key b (j' - 1))) i' out' ?he ?_ (fun hk K => ?_) (fun hk => ⟨hM', hi', hi2', hr', fun u h3 h4 => hk2' u (Nat.lt_of_lt_of_le h3 (Nat.le_of_sub_eq_zero (hd1.trans (Nat.eq_zero_of_not_pos hk)))) h4⟩)
    case he => apply Eq.refl
    ·clear hM' hi' hi2' hr' hk1 hk2' hk3' hd1
     rintro i2 o2 ⟨hMz, hz, hz2, hzr, hzb⟩
     refine bz hjb ?_
     refine bH (fun e5 => ?_) (fun e5 => ?_)
     ·simp only [beq_iff_eq] at e5
      exact wpS_pure ⟨hS4 _, .inl ⟨_, _, (hMz.pushB sb (by exact Nat.le_of_lt hj') hj2' hzb).first sa sb e5 h1⟩⟩
     refine bz (by exact Nat.le_trans (Nat.sub_lt hz Nat.one_pos) hz2 : i2 - 1 < a.size) ?_
     refine fJ fun K hK => dE (left := true) (n := j' - 1) (hint := j' - 1 - 1) hL (ha _ (by simp)) hb (by exact aD fun hg => lN [(b.size), j', (j' - 1)] 0xc008083094c3090a1 rfl hj2' (ar (aD fun hg => lN [j'] 0x84241848108461 rfl hj' hg)) hg) (by exact bP fun hg => lN [(j' - 1), (j' - 1 - 1)] 0x148121461 rfl (ar (aD fun hg => lN [j', (j' - 1)] 0x8425184a32048108461 rfl hj' (aq (j') (1)) hg)) hg) (hS3.kind.trans hkd) (eH (hSib _ (by exact aD fun hg => lN [(b.size), j', (j' - 1)] 0xc008083094c3090a1 rfl hj2' (ar (aD fun hg => lN [j'] 0x84241848108461 rfl hj' hg)) hg))) fun k2 l1 l2 l3 => ?_
     have hz' : i2 - 1 < a.size := by exact Nat.le_trans (Nat.sub_lt hz Nat.one_pos) hz2
     have hM2 := hMz.pushB sb (by exact Nat.le_of_lt hj') hj2' hzb
     simp only [beq_iff_eq] at e5
     have l2' := fun u (h3 : u < k2) => eI.1 (l2 u h3)
     have l3' := fun u (h3 : k2 ≤ u) (h4 : u < j' - 1) => eI.2 (l3 u h3 h4)
     simp only [Nat.zero_add] at l2' l3'
     rw [← bo (key := key) hz'] at l2' l3'
     have hMm := hM2.appB sb l1 (by exact Nat.le_of_lt hjb) fun u h3 h4 v h5 h6 => KeyOrd.kle_trans (ia v _ (by exact aD fun hg => lN [i2, (i2 - 1), v] 0x3146128c8121861 rfl h5 (aq (i2) (1)) hg) hz') (l3' u h3 h4)
     have hv : ∀ v, v < k2 → v < b.size → O.kle (tk key b v) (tk key a (i2 - 1)) := fun v h4 h5 => KeyOrd.kle_of_klt (l2' v h4)
     have hj1 : 1 < j' - 1 := by exact bP fun hg => Or.elim (Nat.lt_or_gt_of_ne e5) (fun hs0 => lN [j', (j' - 1)] 0x8425184a32048108461 rfl hj' (aq (j') (1)) hs0) (fun hs0 => lN [(j' - 1)] 0x102108c2108481 rfl hg hs0)
     have hj12 : j' - 1 ≤ b.size := by exact Nat.le_of_lt hjb
     have hm1 : i2 - 1 + (j' - 1) + 1 ≤ N := by exact aD fun hg => lN [j', (j' - 1), i2, N, (i2 - 1)] 0x540067184c818485184e430061 rfl hzr (ar (aD fun hg => lN [j'] 0x84241848108461 rfl hj' hg)) (ar (aD fun hg => lN [i2] 0x42120c2400461 rfl hz hg)) hg
     clear l2 l3 l2' l3' e5
     subst hK
     dsimp only
     generalize o2.push b[j' - 1] = o1 at hM2 hMm ⊢
     generalize j' - 1 = j1 at hM2 hMm hj1 hj12 hm1 l1 ⊢
     generalize hd2 : j1 - k2 = d2
     refine' lW (fun j2 o3 => MidH key a b o3 i2 j2 ∧ 1 < j2 ∧ j2 ≤ b.size ∧ i2 - 1 + j2 + 1 ≤ N ∧ ∀ v, v < j2 → v < b.size → O.kle (tk key b v) (tk key a (i2 - 1))) j1 o1 ?he ?_ (fun hk K => ?_) (fun hk => ⟨hM2, hj1, hj12, hm1, fun v h4 h5 => hv v (Nat.lt_of_lt_of_le h4 (Nat.le_of_sub_eq_zero (hd2.trans (Nat.eq_zero_of_not_pos hk)))) h5⟩)
     case he => apply Eq.refl
     ·clear hM2 hv hMm hj1 hj12 hm1 l1 hd2
      rintro j2 o3 ⟨hM3, hj3, hj4, hm2, hw⟩
      have hM5 := hM3.pushA sa hz hz2 hw
      refine bz hz' ?_
      refine bH (fun e7 => ?_) (fun e7 => ?_)
      ·simp only [beq_iff_eq] at e7
       exact wpS_pure ⟨hS4 _, .inl ⟨_, _, hM5.done sa sb (.inl e7)⟩⟩
      simp only [beq_iff_eq] at e7
      have hi5 : 0 < i2 - 1 := Nat.pos_of_ne_zero e7
      exact bH (fun _ => wpS_pure ⟨hS4 _, .inr ⟨_, _, _, _, hM5, hi5, Nat.le_of_lt hz', hj3, hj4, hm2⟩⟩) fun _ => wpS_pure ⟨hS4 _, _, _, _, _, hM5, hi5, Nat.le_of_lt hz', hj3, hj4, hm2⟩
     ·refine bH (fun e6 => ?_) (fun e6 => ?_)
      ·simp only [beq_iff_eq] at e6
       exact wpS_pure ⟨hS4 _, .inl ⟨_, _, hMm.first sa sb e6 h1⟩⟩
      refine bH (fun e9 => ?_) (fun e9 => ?_)
      ·simp only [beq_iff_eq] at e9
       exact wpS_pure ⟨hS4 _, .inl ⟨_, _, hMm.done sa sb (.inr e9)⟩⟩
      simp only [beq_iff_eq] at e6 e9
      exact K k2 _ ⟨hMm, by exact bP fun hg => Or.elim (Nat.lt_or_gt_of_ne e6) (fun hs0 => Or.elim (Nat.lt_or_gt_of_ne e9) (fun hs1 => lN [k2] 0x9061 rfl hs1) (fun hs1 => lN [k2] 0x10011842109061 rfl hs0 hs1)) (fun hs0 => lN [k2] 0x102108c2108481 rfl hg hs0), by exact Nat.le_trans l1 hj12, by exact aD fun hg => lN [N, (i2 - 1), j1, k2] 0x3940320c263848628061 rfl hm1 l1 hg, hv⟩
    ·have hMz := hM'.appA sa hk1 hi2' hk3'
     refine bH (fun e3 => ?_) (fun e3 => ?_)
     ·simp only [beq_iff_eq] at e3
      exact wpS_pure ⟨hS4 _, .inl ⟨_, _, hMz.done sa sb (.inl e3)⟩⟩
     simp only [beq_iff_eq] at e3
     exact K k _ ⟨hMz, by exact Nat.pos_of_ne_zero e3, by exact Nat.le_trans hk1 hi2', by exact aD fun hg => lN [i', j', N, k] 0x29c0330c24384c520061 rfl hr' hk1 hg, hk2'⟩
end walk
end Mine
end
noncomputable section
namespace Mine
open PySem PyProof.Rows
section pure
variable {O : KeyOrd} {key : Keyed → O.α}
theorem on (o : Nat) : ∀ (l : List Keyed) (d : Nat) (arr : Array Keyed), o + d + l.length ≤ arr.size →
  ((l.zipIdx d).foldl (fun a (pj : Keyed × Nat) => a.setIfInBounds (o + pj.2) pj.1) arr).toList = arr.toList.take (o + d) ++ (l ++ arr.toList.drop (o + d + l.length))
 | [], d, arr, h => by simp
 | x :: l, d, arr, h => by
  rw [List.zipIdx_cons, List.foldl_cons]
  simp only [List.length_cons] at h
  rw [on o l (d + 1) _ (by rw [Array.size_setIfInBounds]; exact aD fun hg => lN [o, d, (l.length), (arr.size)] 0x628c8001c613986520001 rfl h hg)]
  rw [Array.toList_setIfInBounds]
  have hl : arr.toList.length = arr.size := Array.length_toList
  rw [List.take_set, List.drop_set_of_lt (by exact Nat.le_add_right _ _), show o + (d + 1) = o + d + 1 by exact rfl]
  rw [List.take_add_one, List.getElem?_eq_getElem (by exact Nat.lt_of_le_of_lt (Nat.le_add_right _ _) h), List.set_append]
  simp only [Option.toList_some, List.length_take, List.length_cons]
  rw [if_neg (by exact fun hg => lN [o, d, (min (o + d) arr.toList.length)] 0x18a400c25200c1 rfl (Nat.min_le_left (o + d) (arr.toList.length)) hg), show o + d - min (o + d) arr.toList.length = 0 by exact Nat.le_antisymm (aD fun hg => Or.elim (a8 (o + d) (min (o + d) arr.toList.length)) (fun hs0 => Or.elim (bJ (o + d) (arr.toList.length)) (fun hs1 => lN [o, d, (o + d - min (o + d) arr.toList.length), (min (o + d) arr.toList.length)] 0x729001300230948039801 rfl (ar (aD fun hg => lN [o, d, (min (o + d) arr.toList.length)] 0x18a400c25200c1 rfl (Nat.min_le_left (o + d) (arr.toList.length)) hg)) hg hs1) (fun hs1 => lN [o, d, (l.length), (arr.size), (o + d - min (o + d) arr.toList.length), (min (o + d) arr.toList.length)] 0x24e140023094804a0013986520001 rfl h (ar (aD fun hg => lN [o, d, (min (o + d) arr.toList.length)] 0x18a400c25200c1 rfl (Nat.min_le_left (o + d) (arr.toList.length)) hg)) hg hs1)) (fun hs0 => lN [(o + d - min (o + d) arr.toList.length)] 0x902400461 rfl hg (Nat.le_of_eq hs0))) (aD fun hg => lN [o, d, (o + d - min (o + d) arr.toList.length), (min (o + d) arr.toList.length)] 0x98613980520025200e1 rfl (Nat.min_le_left (o + d) (arr.toList.length)) (aq (o + d) (min (o + d) arr.toList.length)) hg)]
  simp only [List.set_cons_zero, List.append_assoc, List.cons_append, List.nil_append]
  rw [show o + d + 1 + l.length = o + d + (l.length + 1) by exact Nat.add_right_comm _ _ _]
theorem t4 {arr arr' : Array Keyed} {M : List Keyed} {i j : Nat} (e : arr'.toList = arr.toList.take i ++ (M ++ arr.toList.drop j)) (hij : i ≤ j) (hj : j ≤ arr.size) (hM : M.length = j - i) (p : Nat) :
  arr'[p]? = if p < i then arr[p]? else if p < j then M[p - i]? else arr[p]? := by
 have hl : arr.toList.length = arr.size := Array.length_toList
 rw [← Array.getElem?_toList, e, List.getElem?_append]
 simp only [List.length_take, hl]
 rw [show min i arr.size = i by exact Nat.le_antisymm (aD fun hg => lN [i, (min i arr.size)] 0x1483090a1 rfl (Nat.min_le_left (i) (arr.size)) hg) (aD fun hg => Or.elim (a8 (j) (i)) (fun hs0 => Or.elim (bJ (i) (arr.size)) (fun hs1 => lN [i, (min i arr.size)] 0x148121461 rfl hg hs1) (fun hs1 => lN [i, j, (arr.size), (min i arr.size)] 0x730487184c509481 rfl hij hj hg hs1)) (fun hs0 => Or.elim (bJ (i) (arr.size)) (fun hs1 => lN [i, (min i arr.size)] 0x148121461 rfl hg hs1) (fun hs1 => lN [i, j, (arr.size), (min i arr.size)] 0x730487184c509481 rfl hij hj hg hs1)))]
 split
 ·rename_i h
  rw [List.getElem?_take_of_lt h, Array.getElem?_toList]
 ·rw [List.getElem?_append, hM]
  split
  ·rename_i h h'
   rw [if_pos (by exact bP fun hg => lN [i, j, (j - i), p, (p - i)] 0x72848801c252180132061 rfl h' (ar (aD fun hg => lN [i, j] 0x10a309481 rfl hij hg)) (aq (p) (i)) hg)]
  ·rename_i h h'
   rw [if_neg (by exact fun hg => lN [i, j, (j - i), p, (p - i)] 0x538c2722001218050a0c1 rfl (Nat.le_of_not_lt h') (aq (j) (i)) (ar (aD fun hg => lN [i, p] 0x10a309481 rfl (Nat.le_of_not_lt h) hg)) hg), List.getElem?_drop, Array.getElem?_toList]
   congr 1
   exact Nat.le_antisymm (aD fun hg => lN [i, j, (j - i), p, (p - i), (p - i - (j - i))] 0x9280e30a0c9004e440024300a1 rfl (aq (j) (i)) (ar (aD fun hg => lN [i, p] 0x10a309481 rfl (Nat.le_of_not_lt h) hg)) (ar (aD fun hg => lN [(j - i), (p - i)] 0x10a309481 rfl (Nat.le_of_not_lt h') hg)) hg) (aD fun hg => lN [i, j, (j - i), p, (p - i), (p - i - (j - i))] 0x749403099204048801c2521801 rfl (ar (aD fun hg => lN [i, j] 0x10a309481 rfl hij hg)) (aq (p) (i)) (aq (p - i) (j - i)) hg)
theorem iY {arr : Array Keyed} {i j k : Nat} (hij : i ≤ j) (hjk : j ≤ k) : arr.toList = arr.toList.take i ++ ((arr.extract i j).toList ++ (arr.extract j k).toList ++ arr.toList.drop k) := by
 have h1 := ic (arr := arr) hij
 have h2 := ic (arr := arr) hjk
 rw [List.append_assoc, ← List.append_assoc, ← h1, ← List.append_assoc, ← h2, List.take_append_drop]
theorem lY {arr : Array Keyed} {i j p : Nat} (hp : i + p < j) (hj : j ≤ arr.size) : tk key (arr.extract i j) p = tk key arr (i + p) := by
 apply co
 rw [Array.getElem?_extract, if_pos (by exact bP fun hg => Or.elim (a8 (min j arr.size) (i)) (fun hs0 => Or.elim (bJ (j) (arr.size)) (fun hs1 => lN [i, p, j, (min j arr.size - i), (min j arr.size)] 0x8304a7090e0404c520061 rfl hp (aq (min j arr.size) (i)) hg hs1) (fun hs1 => lN [i, p, j, (arr.size), (min j arr.size - i), (min j arr.size)] 0x49c254048802427304c520061 rfl hp hj (aq (min j arr.size) (i)) hg hs1)) (fun hs0 => Or.elim (bJ (j) (arr.size)) (fun hs1 => lN [i, p, j, (min j arr.size - i), (min j arr.size)] 0x8304a7090e0404c520061 rfl hp (aq (min j arr.size) (i)) hg hs1) (fun hs1 => lN [i, p, j, (arr.size), (min j arr.size - i), (min j arr.size)] 0x49c254048802427304c520061 rfl hp hj (aq (min j arr.size) (i)) hg hs1)))]
end pure
section walk
variable {prog : Program} {w : World} {A : Around} {E : Value → Shared → Prop} {s : Shared} {kd : SortKind} {O : KeyOrd} {key : Keyed → O.α} {a₀ : Array Keyed}
theorem uQ {st st' : SortSt} {Q : PUnit → SortSt → Prop} (h : Q ⟨⟩ st') : wpS (model prog w) A E s (set st' : StateT SortSt Sem PUnit) Q st := by
 unfold wpS; rw [StateT.run_set]; exact wpAny_pure ⟨rfl, h⟩
theorem px {st : SortSt} {i : Nat} {p1 p2 : List (Nat × Nat × Nat)} {sa na pw sb nb pw2 : Nat} {Q : Bool → SortSt → Prop} (hL : eV prog w A E s kd O key a₀) (hB : SB kd a₀ st)
  (hp : (pendingOf st).toList = p1 ++ (sa, na, pw) :: (sb, nb, pw2) :: p2) (hi : i = p1.length) (hsb : sb = sa + na) (hna : 0 < na) (hnb : 0 < nb) (hsz : sb + nb ≤ a₀.size)
  (h1 : i6 key (arrOf st) sa sb) (h2 : i6 key (arrOf st) sb (sb + nb))
  (h : ∀ st', SB kd a₀ st' → (pendingOf st').toList = p1 ++ (sa, na + nb, pw) :: p2 → (∀ k, k < sa ∨ sb + nb ≤ k → (arrOf st')[k]? = (arrOf st)[k]?) → i6 key (arrOf st') sa (sb + nb) → Q true st') :
  wpS (model prog w) A E s (mergeAt' i) Q st := by
 have hsize := hB.size
 have hmem : ∀ x ∈ (arrOf st).toList, x ∈ a₀.toList := fun x hx => (Array.perm_iff_toList_perm.mp hB.perm).mem_iff.mp hx
 have q1 : (pendingOf st)[i]? = some (sa, na, pw) := by
  rw [← Array.getElem?_toList, hp, hi, List.getElem?_append_right (Nat.le_refl _)]; simp
 have q2 : (pendingOf st)[i + 1]? = some (sb, nb, pw2) := by
  rw [← Array.getElem?_toList, hp, hi, List.getElem?_append_right (by exact Nat.le_add_right _ _)]; simp
 have hpend : (((pendingOf st).setIfInBounds i (sa, na + nb, pw)).eraseIdxIfInBounds (i + 1)).toList = p1 ++ (sa, na + nb, pw) :: p2 := by
  rw [Array.toList_eraseIdxIfInBounds, Array.toList_setIfInBounds, hp, hi, List.set_append_right _ _ (Nat.le_refl _), List.eraseIdx_append_of_length_le (by exact Nat.le_add_right _ _)]
  simp
 unfold mergeAt'
 refine cI ?_
 dsimp only
 rw [q1, q2]
 dsimp only
 refine wpS_bind (uQ ?_)
 have hsbs : sb < (arrOf st).size := by exact bP fun hg => lN [sb, nb, (a₀.size), ((arrOf st).size)] 0x21c27304c52002500461 rfl hnb hsz (Nat.le_of_eq (Eq.symm hsize)) hg
 have bn1 : sa + na ≤ (arrOf st).size := by exact aD fun hg => lN [sb, sa, na, nb, (a₀.size), ((arrOf st).size)] 0x31409185280a0e4004e008c2431401 rfl (Nat.le_of_eq (Eq.symm hsb)) hnb hsz (Nat.le_of_eq (Eq.symm hsize)) hg
 have bn2 : sb + nb ≤ (arrOf st).size := by exact Nat.le_trans hsz (Nat.le_of_eq hsize.symm)
 refine bz hsbs ?_
 refine wpS_bind (dE (left := false) (n := na) (hint := 0) hL (hmem _ (by simp)) hmem bn1 hna hB.kind (eH (by rw [← hsb]; exact h1)) fun k hk1 hk2 hk3 => ?_)
 dsimp only
 have hk2' : ∀ u, sa ≤ u → u < sa + k → O.kle (tk key (arrOf st) u) (tk key (arrOf st) sb) := fun u h3 h4 => by
  have := dI.1 (hk2 (u - sa) (by exact bP fun hg => lN [sa, k, u, (u - sa)] 0xe509887004a401861 rfl h4 (ar (aD fun hg => lN [sa, u] 0x10a309481 rfl h3 hg)) hg))
  rwa [show sa + (u - sa) = u by exact Nat.add_sub_cancel' h3, ← bo (key := key) hsbs] at this
 have hk3' : ∀ u, sa + k ≤ u → u < sb → O.klt (tk key (arrOf st) sb) (tk key (arrOf st) u) := fun u h3 h4 => by
  have := dI.2 (hk3 (u - sa) (by exact aD fun hg => lN [sa, k, u, (u - sa)] 0xa7184870182629001 rfl h3 (aq (u) (sa)) hg) (by exact bP fun hg => lN [sb, sa, na, u, (u - sa)] 0x8304e54002438c2628081 rfl (Nat.le_of_eq hsb) h4 (ar (aD fun hg => lN [sa, k, u] 0x430c2629001 rfl h3 hg)) hg))
  rwa [show sa + (u - sa) = u by exact Nat.le_antisymm (aD fun hg => lN [sa, u, (u - sa)] 0x188028c2521801 rfl (ar (aD fun hg => lN [sa, k, u] 0x430c2629001 rfl h3 hg)) hg) (aD fun hg => lN [sa, u, (u - sa)] 0x14c400c24300a1 rfl (aq (u) (sa)) hg), ← bo (key := key) hsbs] at this
 refine bH (fun e1 => ?_) (fun e1 => ?_)
 ·simp only [beq_iff_eq] at e1
  refine wpS_pure (h _ ⟨hB.perm, hB.kind, hB.failed⟩ hpend (fun _ _ => rfl) fun p q hp1 hpq hq => ?_)
  show O.kle (tk key (arrOf st) p) (tk key (arrOf st) q)
  by_cases hq2 : q < sb
  ·exact h1 p q hp1 hpq hq2
  ·by_cases hp2 : p < sb
   ·exact KeyOrd.kle_trans (hk2' p hp1 (by exact bP fun hg => lN [sb, sa, na, k, (na - k), p] 0x24e5004e80182448c200a02628081 rfl (Nat.le_of_eq hsb) (Nat.le_of_eq e1) hp2 (aq (na) (k)) hg)) (h2 sb q (Nat.le_refl _) (by exact Nat.le_of_not_lt hq2) hq)
   ·exact h2 p q (by exact Nat.le_of_not_lt hp2) hpq hq
 simp only [beq_iff_eq] at e1
 have hlast : sa + k + (na - k) - 1 < (arrOf st).size := by exact bP fun hg => lN [sb, sa, na, nb, (a₀.size), ((arrOf st).size), k, (na - k), (sa + k + (na - k) - 1)] 0x1890ad45001830994b005280a0e4004e008c2431401 rfl (Nat.le_of_eq (Eq.symm hsb)) hnb hsz (Nat.le_of_eq (Eq.symm hsize)) (ar (aD fun hg => lN [na, k] 0x1483090a1 rfl hk1 hg)) (ar (aD fun hg => lN [sa, na, k, (na - k)] 0x842731000184c70142500461 rfl hna (aq (na) (k)) hg)) hg
 have elast : sa + k + (na - k) - 1 = sb - 1 := by exact Nat.le_antisymm (aD fun hg => lN [sb, sa, na, k, (na - k), (sa + k + (na - k) - 1), (sb - 1)] 0x12a185432050728009184c74002431401 rfl (Nat.le_of_eq (Eq.symm hsb)) (ar (aD fun hg => lN [na, k] 0x1483090a1 rfl hk1 hg)) (ar (aD fun hg => lN [sa, na, k, (na - k)] 0x842731000184c70142500461 rfl hna (aq (na) (k)) hg)) (aq (sb) (1)) hg) (aD fun hg => lN [sb, sa, na, k, (na - k), (sa + k + (na - k) - 1), (sb - 1)] 0x1491848a1852341ca0004e80182628081 rfl (Nat.le_of_eq hsb) (aq (na) (k)) (aq (sa + k + (na - k)) (1)) (ar (aD fun hg => lN [sb, sa, na] 0x8424184c008c2431401 rfl (Nat.le_of_eq (Eq.symm hsb)) hna hg)) hg)
 refine bz hlast ?_
 refine wpS_bind (dE (left := true) (n := nb) (hint := nb - 1) hL (hmem _ (by simp)) hmem bn2 (by exact Nat.sub_lt hnb Nat.one_pos) hB.kind (eH h2) fun k2 l1 l2 l3 => ?_)
 dsimp only
 have l2' : ∀ u, sb ≤ u → u < sb + k2 → O.klt (tk key (arrOf st) u) (tk key (arrOf st) (sb - 1)) := fun u h3 h4 => by
  have := eI.1 (l2 (u - sb) (by exact bP fun hg => lN [sb, k2, u, (u - sb)] 0xe509887004a401861 rfl h4 (ar (aD fun hg => lN [sb, u] 0x10a309481 rfl h3 hg)) hg))
  rwa [show sb + (u - sb) = u by exact Nat.add_sub_cancel' h3, ← bo (key := key) hlast, elast] at this
 have l3' : ∀ u, sb + k2 ≤ u → u < sb + nb → O.kle (tk key (arrOf st) (sb - 1)) (tk key (arrOf st) u) := fun u h3 h4 => by
  have := eI.2 (l3 (u - sb) (by exact aD fun hg => lN [sb, k2, u, (u - sb)] 0xa7184870182629001 rfl h3 (aq (u) (sb)) hg) (by exact bP fun hg => lN [sb, nb, u, (u - sb)] 0xe509887004a401861 rfl h4 (ar (aD fun hg => lN [sb, k2, u] 0x430c2629001 rfl h3 hg)) hg))
  rwa [show sb + (u - sb) = u by exact Nat.le_antisymm (aD fun hg => lN [sb, u, (u - sb)] 0x188028c2521801 rfl (ar (aD fun hg => lN [sb, k2, u] 0x430c2629001 rfl h3 hg)) hg) (aD fun hg => lN [sb, u, (u - sb)] 0x14c400c24300a1 rfl (aq (u) (sb)) hg), ← bo (key := key) hlast, elast] at this
 refine bH (fun e2 => ?_) (fun e2 => ?_)
 ·simp only [beq_iff_eq] at e2
  refine wpS_pure (h _ ⟨hB.perm, hB.kind, hB.failed⟩ hpend (fun _ _ => rfl) fun p q hp1 hpq hq => ?_)
  show O.kle (tk key (arrOf st) p) (tk key (arrOf st) q)
  by_cases hq2 : q < sb
  ·exact h1 p q hp1 hpq hq2
  ·by_cases hp2 : p < sb
   ·exact KeyOrd.kle_trans (h1 p (sb - 1) hp1 (by exact aD fun hg => lN [sb, sa, na, k, (na - k), (sa + k + (na - k) - 1), (sb - 1), p] 0xb50c291a0e500027400c122c615242628081 rfl (Nat.le_of_eq hsb) (Nat.le_of_eq elast) hp2 (aq (na) (k)) (aq (sa + k + (na - k)) (1)) hg) (by exact bP fun hg => lN [sb, sa, na, k, (na - k), (sa + k + (na - k) - 1), (sb - 1)] 0x510283940048c263a0014a82431401 rfl (Nat.le_of_eq (Eq.symm hsb)) (Nat.le_of_eq (Eq.symm elast)) (ar (aD fun hg => lN [na, k] 0x1483090a1 rfl hk1 hg)) (ar (aD fun hg => lN [sa, na, k, (na - k)] 0x842731000184c70142500461 rfl hna (aq (na) (k)) hg)) hg)) (l3' q (by exact aD fun hg => lN [sb, k2, q] 0x5200c309881004a1 rfl (Nat.le_of_eq e2) (Nat.le_of_not_lt hq2) hg) hq)
   ·exact h2 p q (by exact Nat.le_of_not_lt hp2) hpq hq
 simp only [beq_iff_eq] at e2
 have hxs : ((arrOf st).extract (sa + k) sb).size = sb - (sa + k) := by rw [Array.size_extract]; exact Nat.le_antisymm (aD fun hg => Or.elim (Nat.lt_or_gt_of_ne e1) (fun hs0 => lN [na, k, (na - k)] 0x986129804090a1 rfl hk1 (aq (na) (k)) hs0) (fun hs0 => Or.elim (a8 (min sb (arrOf st).size) (sa + k)) (fun hs1 => lN [sb, sa, k, (min sb (arrOf st).size - (sa + k)), (sb - (sa + k)), (min sb (arrOf st).size)] 0x931407004e8184c50200409121 rfl (Nat.min_le_left (sb) ((arrOf st).size)) (aq (sb) (sa + k)) hg (Nat.le_of_eq hs1)) (fun hs1 => lN [sb, sa, na, k, (na - k), (min sb (arrOf st).size - (sa + k)), (sb - (sa + k))] 0x14850008c2950c2728140204c74002431401 rfl (Nat.le_of_eq (Eq.symm hsb)) (ar (aD fun hg => lN [na, k] 0x1483090a1 rfl hk1 hg)) (aq (sb) (sa + k)) hg hs0 (Nat.le_of_eq hs1)))) (aD fun hg => Or.elim (Nat.lt_or_gt_of_ne e1) (fun hs0 => lN [na, k, (na - k)] 0x986129804090a1 rfl hk1 (aq (na) (k)) hs0) (fun hs0 => Or.elim (bJ (sb) ((arrOf st).size)) (fun hs1 => lN [sb, sa, k, (min sb (arrOf st).size - (sa + k)), (sb - (sa + k)), (min sb (arrOf st).size)] 0x9205071848628100098a038121 rfl (aq (min sb (arrOf st).size) (sa + k)) (ar (aD fun hg => lN [sb, sa, na, k] 0xe50106131c2431401 rfl (Nat.le_of_eq (Eq.symm hsb)) hk1 hg)) hg hs1) (fun hs1 => lN [sb, nb, (a₀.size), ((arrOf st).size), (min sb (arrOf st).size)] 0x20e122027304c52002500461 rfl hnb hsz (Nat.le_of_eq (Eq.symm hsize)) (Nat.min_le_left (sb) ((arrOf st).size)) hs1)))
 have hys : ((arrOf st).extract sb (sb + k2)).size = k2 := by rw [Array.size_extract]; exact Nat.le_antisymm (aD fun hg => Or.elim (Nat.lt_or_gt_of_ne e1) (fun hs0 => lN [na, k, (na - k)] 0x986129804090a1 rfl hk1 (aq (na) (k)) hs0) (fun hs0 => Or.elim (a8 (min (sb + k2) (arrOf st).size) (sb)) (fun hs1 => lN [sb, k2, (min (sb + k2) (arrOf st).size - sb), (min (sb + k2) (arrOf st).size)] 0xe43002628c25200e1 rfl (Nat.min_le_left (sb + k2) ((arrOf st).size)) hg (Nat.le_of_eq hs1)) (fun hs1 => lN [k2, (min (sb + k2) (arrOf st).size - sb)] 0x4a129061 rfl hg (Nat.le_of_eq hs1)))) (aD fun hg => Or.elim (Nat.lt_or_gt_of_ne e1) (fun hs0 => lN [na, k, (na - k)] 0x986129804090a1 rfl hk1 (aq (na) (k)) hs0) (fun hs0 => Or.elim (bJ (sb + k2) ((arrOf st).size)) (fun hs1 => lN [sb, k2, (min (sb + k2) (arrOf st).size - sb), (min (sb + k2) (arrOf st).size)] 0xe52002530c24300e1 rfl (aq (min (sb + k2) (arrOf st).size) (sb)) hg hs1) (fun hs1 => lN [sb, nb, (a₀.size), ((arrOf st).size), k2, (min (sb + k2) (arrOf st).size - sb), (min (sb + k2) (arrOf st).size)] 0x28e1424612240a095013982629001 rfl hsz (Nat.le_of_eq (Eq.symm hsize)) l1 (aq (min (sb + k2) (arrOf st).size) (sb)) hg hs1)))
 have hxm : ∀ x ∈ ((arrOf st).extract (sa + k) sb).toList, x ∈ a₀.toList := fun x hx => hmem x (by
  rw [Array.toList_extract, List.extract_eq_take_drop] at hx
  exact List.drop_subset _ _ (List.take_subset _ _ hx))
 have hym : ∀ x ∈ ((arrOf st).extract sb (sb + k2)).toList, x ∈ a₀.toList := fun x hx => hmem x (by
  rw [Array.toList_extract, List.extract_eq_take_drop] at hx
  exact List.drop_subset _ _ (List.take_subset _ _ hx))
 have hsx : hH key ((arrOf st).extract (sa + k) sb).toList := da (fun p q a b c => h1 p q (by exact Nat.le_trans (Nat.le_add_right _ _) a) b c) (by exact Nat.le_of_lt hsbs)
 have hsy : hH key ((arrOf st).extract sb (sb + k2)).toList := da (fun p q a b c => h2 p q a b (by exact bP fun hg => lN [sb, nb, k2, q] 0xe520026200e3094c1 rfl l1 c hg)) (by exact aD fun hg => lN [sb, nb, (a₀.size), ((arrOf st).size), k2] 0x8200e3095013982629001 rfl hsz (Nat.le_of_eq (Eq.symm hsize)) l1 hg)
 have hfst : ∀ i, i < ((arrOf st).extract (sa + k) sb).size → O.kle (tk key ((arrOf st).extract sb (sb + k2)) 0) (tk key ((arrOf st).extract (sa + k) sb) i) := fun i hi => by
  rw [hxs] at hi
  rw [lY (by exact bP fun hg => Or.elim (Nat.lt_or_gt_of_ne e1) (fun hs0 => lN [na, k, (na - k)] 0x986129804090a1 rfl hk1 (aq (na) (k)) hs0) (fun hs0 => Or.elim (Nat.lt_or_gt_of_ne e2) (fun hs1 => lN [k2] 0x9061 rfl hs1) (fun hs1 => lN [sb, k2] 0x5004610048029001 rfl hg hs1))) (by exact aD fun hg => lN [sb, nb, (a₀.size), ((arrOf st).size), k2] 0x8200e3095013982629001 rfl hsz (Nat.le_of_eq (Eq.symm hsize)) l1 hg), lY (by exact bP fun hg => lN [sb, sa, k, (sb - (sa + k)), i] 0x10628004090c501c013a061 rfl hi (ar (aD fun hg => lN [sb, sa, na, k] 0xe50106131c2431401 rfl (Nat.le_of_eq (Eq.symm hsb)) hk1 hg)) hg) (by exact Nat.le_of_lt hsbs), Nat.add_zero]
  exact KeyOrd.kle_of_klt (hk3' _ (by exact Nat.le_add_right _ _) (by exact bP fun hg => lN [sb, sa, k, (sb - (sa + k)), i] 0x10628004090c501c013a061 rfl hi (ar (aD fun hg => lN [sb, sa, na, k] 0xe50106131c2431401 rfl (Nat.le_of_eq (Eq.symm hsb)) hk1 hg)) hg))
 have hlst : ∀ j, j < ((arrOf st).extract sb (sb + k2)).size → O.kle (tk key ((arrOf st).extract sb (sb + k2)) j) (tk key ((arrOf st).extract (sa + k) sb) (((arrOf st).extract (sa + k) sb).size - 1)) := fun j hj => by
  rw [hys] at hj
  rw [hxs, lY (by exact Nat.add_le_add_left hj _) (by exact aD fun hg => lN [sb, nb, (a₀.size), ((arrOf st).size), k2] 0x8200e3095013982629001 rfl hsz (Nat.le_of_eq (Eq.symm hsize)) l1 hg), lY (by exact bP fun hg => Or.elim (Nat.lt_or_gt_of_ne e1) (fun hs0 => lN [na, k, (na - k)] 0x986129804090a1 rfl hk1 (aq (na) (k)) hs0) (fun hs0 => Or.elim (a8 (sb - (sa + k)) (1)) (fun hs1 => lN [sb, sa, k, (sb - (sa + k)), (sb - (sa + k) - 1)] 0xe81850628004090c501c01 rfl (ar (aD fun hg => lN [sb, sa, na, k] 0xe50106131c2431401 rfl (Nat.le_of_eq (Eq.symm hsb)) hk1 hg)) hg (Nat.le_of_eq hs1)) (fun hs1 => lN [sb, sa, na, k, (na - k), (sb - (sa + k) - 1)] 0x14850008c2939400204c74002431401 rfl (Nat.le_of_eq (Eq.symm hsb)) (ar (aD fun hg => lN [na, k] 0x1483090a1 rfl hk1 hg)) hg hs0 (Nat.le_of_eq hs1)))) (by exact Nat.le_of_lt hsbs), show sa + k + (sb - (sa + k) - 1) = sb - 1 by exact Nat.le_antisymm (aD fun hg => Or.elim (Nat.lt_or_gt_of_ne e1) (fun hs0 => lN [na, k, (na - k)] 0x986129804090a1 rfl hk1 (aq (na) (k)) hs0) (fun hs0 => Or.elim (a8 (sb - (sa + k)) (1)) (fun hs1 => lN [sb, sa, na, k, (na - k), (sa + k + (na - k) - 1), (sb - 1), (sb - (sa + k)), (sb - (sa + k) - 1)] 0x5b06161ca00286121ca0580291a0e500027400c15242628081 rfl (Nat.le_of_eq hsb) (Nat.le_of_eq elast) (aq (na) (k)) (aq (sa + k + (na - k)) (1)) (ar (aD fun hg => lN [sb, sa, na, k] 0xe50106131c2431401 rfl (Nat.le_of_eq (Eq.symm hsb)) hk1 hg)) hg (Nat.le_of_eq hs1)) (fun hs1 => lN [sa, k, (na - k), (sa + k + (na - k) - 1), (sb - 1), (sb - (sa + k) - 1)] 0x521300230a4a40010309c66290000a0e1 rfl (Nat.le_of_eq elast) (aq (sa + k + (na - k)) (1)) hg hs0 (Nat.le_of_eq hs1)))) (aD fun hg => lN [sb, sa, na, k, (na - k), (sa + k + (na - k) - 1), (sb - 1), (sb - (sa + k)), (sb - (sa + k) - 1)] 0x530e50006160d613940b010283940048c263a0014a82431401 rfl (Nat.le_of_eq (Eq.symm hsb)) (Nat.le_of_eq (Eq.symm elast)) (ar (aD fun hg => lN [na, k] 0x1483090a1 rfl hk1 hg)) (ar (aD fun hg => lN [sa, na, k, (na - k)] 0x842731000184c70142500461 rfl hna (aq (na) (k)) hg)) (aq (sb) (sa + k)) (aq (sb - (sa + k)) (1)) hg)]
  exact KeyOrd.kle_of_klt (l2' _ (by exact Nat.le_add_right _ _) (by exact Nat.add_le_add_left hj _))
 have fin : ∀ (m : Array Keyed) (st' : SortSt), Good key ((arrOf st).extract (sa + k) sb) ((arrOf st).extract sb (sb + k2)) m →
   Same (SortSt.mk' (kindOf st) (arrOf st) (((pendingOf st).setIfInBounds i (sa, na + nb, pw)).eraseIdxIfInBounds (i + 1)) (gallopOf st) (failedOf st)) st' →
   failedOf st' = none ∧ Q true (setArr st' (m.toList.zipIdx.foldl (fun a (pj : Keyed × Nat) => a.setIfInBounds (sa + k + pj.2) pj.1) (arrOf st'))) := by
  intro m st' hG hS
  have hf : failedOf st' = none := hS.failed.trans hB.failed
  have ha' : arrOf st' = arrOf st := hS.arr
  have hlen : m.toList.length = sb + k2 - (sa + k) := by
   rw [hG.perm.length_eq, List.length_append, Array.length_toList, Array.length_toList, hxs, hys]; exact Nat.le_antisymm (aD fun hg => lN [sb, sa, k, k2, (sb - (sa + k)), (sb + k2 - (sa + k))] 0xe8024613140901c80090c502001 rfl (ar (aD fun hg => lN [sb, sa, na, k] 0xe50106131c2431401 rfl (Nat.le_of_eq (Eq.symm hsb)) hk1 hg)) (aq (sb + k2) (sa + k)) hg) (aD fun hg => lN [sb, sa, k, k2, (sb - (sa + k)), (sb + k2 - (sa + k))] 0x127400613900628120098a040081 rfl (aq (sb) (sa + k)) (ar (aD fun hg => lN [sb, sa, na, k, k2] 0x394082006131c2431401 rfl (Nat.le_of_eq (Eq.symm hsb)) hk1 hg)) hg)
  have hl := on (sa + k) m.toList 0 (arrOf st') (by rw [ha', hlen]; exact aD fun hg => lN [sb, sa, nb, (a₀.size), ((arrOf st).size), k, k2, (sb + k2 - (sa + k))] 0x2c01494000206151009281600994141c2731001 rfl hsz (Nat.le_of_eq (Eq.symm hsize)) l1 (ar (aD fun hg => lN [sb, sa, na, k, k2] 0x394082006131c2431401 rfl (Nat.le_of_eq (Eq.symm hsb)) hk1 hg)) hg)
  rw [ha', hlen, Nat.add_zero, show sa + k + (sb + k2 - (sa + k)) = sb + k2 by exact Nat.le_antisymm (aD fun hg => lN [sb, sa, k, k2, (sb + k2 - (sa + k))] 0x20c5000e400c27200c502001 rfl (ar (aD fun hg => lN [sb, sa, na, k, k2] 0x394082006131c2431401 rfl (Nat.le_of_eq (Eq.symm hsb)) hk1 hg)) hg) (aD fun hg => lN [sb, sa, k, k2, (sb + k2 - (sa + k))] 0x1c80418a000c262810039001 rfl (aq (sb + k2) (sa + k)) hg)] at hl
  have hget := t4 hl (by exact aD fun hg => lN [sb, sa, na, k, k2] 0x394082006131c2431401 rfl (Nat.le_of_eq (Eq.symm hsb)) hk1 hg) (by exact aD fun hg => lN [sb, nb, (a₀.size), ((arrOf st).size), k2] 0x8200e3095013982629001 rfl hsz (Nat.le_of_eq (Eq.symm hsize)) l1 hg) hlen
  have hmid : ∀ p, sa + k ≤ p → p < sb + k2 → ∃ x r, m.toList[p - (sa + k)]? = some x ∧ sa + k ≤ r ∧ r < sb + k2 ∧ key x = tk key (arrOf st) r := by
   intro p h3 h4
   have hlt : p - (sa + k) < m.toList.length := by exact bP fun hg => lN [sb, sa, k, k2, (m.toList.length), (sb + k2 - (sa + k)), p, (p - (sa + k))] 0x5a02a3140b004c50240720027201430a121 rfl (Nat.le_of_eq (Eq.symm hlen)) h4 (aq (sb + k2) (sa + k)) (ar (aD fun hg => lN [sa, k, p] 0x148030c2629001 rfl h3 hg)) hg
   have hx : m.toList[p - (sa + k)] ∈ m.toList := List.getElem_mem hlt
   rcases List.mem_append.mp (hG.perm.mem_iff.mp hx) with hx | hx
   ·obtain ⟨r, a1, a2, a3, e⟩ := dg (key := key) hx
    exact ⟨_, r, List.getElem?_eq_getElem hlt, a1, by exact Nat.le_trans a2 (Nat.le_add_right _ _), e⟩
   ·obtain ⟨r, a1, a2, a3, e⟩ := dg (key := key) hx
    exact ⟨_, r, List.getElem?_eq_getElem hlt, by exact aD fun hg => lN [sb, sa, na, k, r] 0x7281030a08131c2431401 rfl (Nat.le_of_eq (Eq.symm hsb)) hk1 a1 hg, a2, e⟩
  refine ⟨hf, h _ ⟨?_, hS.kind.trans hB.kind, hf⟩ ?_ ?_ ?_⟩
  ·refine Array.Perm.trans (Array.perm_iff_toList_perm.mpr ?_) hB.perm
   show List.Perm (Array.toList (List.foldl _ (arrOf st') _)) _
   rw [ha', hl]
   rw [iY (arr := arrOf st) (i := sa + k) (j := sb) (k := sb + k2) (by exact aD fun hg => lN [sb, sa, na, k] 0xe50106131c2431401 rfl (Nat.le_of_eq (Eq.symm hsb)) hk1 hg) (by exact Nat.le_add_right _ _)]
   have e1 : ((arrOf st).toList.take (sa + k) ++ (((arrOf st).extract (sa + k) sb).toList ++ ((arrOf st).extract sb (sb + k2)).toList ++ (arrOf st).toList.drop (sb + k2))).take (sa + k) = (arrOf st).toList.take (sa + k) := by
    rw [← iY (by exact aD fun hg => lN [sb, sa, na, k] 0xe50106131c2431401 rfl (Nat.le_of_eq (Eq.symm hsb)) hk1 hg) (by exact Nat.le_add_right _ _)]
   have e2 : ((arrOf st).toList.take (sa + k) ++ (((arrOf st).extract (sa + k) sb).toList ++ ((arrOf st).extract sb (sb + k2)).toList ++ (arrOf st).toList.drop (sb + k2))).drop (sb + k2) = (arrOf st).toList.drop (sb + k2) := by
    rw [← iY (by exact aD fun hg => lN [sb, sa, na, k] 0xe50106131c2431401 rfl (Nat.le_of_eq (Eq.symm hsb)) hk1 hg) (by exact Nat.le_add_right _ _)]
   rw [e1, e2]
   exact List.Perm.append_left _ (List.Perm.append_right _ hG.perm)
  ·show (pendingOf st').toList = _
   rw [hS.pend]
   exact hpend
  ·intro q hq
   show (List.foldl _ (arrOf st') _)[q]? = _
   rw [ha', hget q]
   rcases hq with hq | hq
   ·rw [if_pos (by exact Nat.le_trans hq (Nat.le_add_right _ _))]
   ·rw [if_neg (by exact fun hg => lN [sb, sa, na, nb, k, q] 0x414091852720026404e008c2431401 rfl (Nat.le_of_eq (Eq.symm hsb)) hnb hk1 hq hg), if_neg (by exact fun hg => lN [sb, nb, k2, q] 0xc401c6139480094c1 rfl l1 hq hg)]
  ·intro p q hp1 hpq hq
   show O.kle (tk key (List.foldl _ (arrOf st') _) p) (tk key (List.foldl _ (arrOf st') _) q)
   rw [ha']
   have tlow : ∀ p, p < sa + k → tk key (List.foldl (fun a (pj : Keyed × Nat) => a.setIfInBounds (sa + k + pj.2) pj.1) (arrOf st) m.toList.zipIdx) p = tk key (arrOf st) p := fun p hp => co (by rw [hget p, if_pos hp])
   have thigh : ∀ p, sb + k2 ≤ p → tk key (List.foldl (fun a (pj : Keyed × Nat) => a.setIfInBounds (sa + k + pj.2) pj.1) (arrOf st) m.toList.zipIdx) p = tk key (arrOf st) p := fun p hp => co (by rw [hget p, if_neg (by exact fun hg => lN [sb, sa, na, k, k2, p] 0x1ca048c294100131c2431401 rfl (Nat.le_of_eq (Eq.symm hsb)) hk1 hp hg), if_neg (by exact Nat.not_lt_of_le hp)])
   have tmid : ∀ p x, sa + k ≤ p → p < sb + k2 → m.toList[p - (sa + k)]? = some x → tk key (List.foldl (fun a (pj : Keyed × Nat) => a.setIfInBounds (sa + k + pj.2) pj.1) (arrOf st) m.toList.zipIdx) p = key x := fun p x a1 a2 e => by
    unfold tk
    rw [hget p, if_neg (by exact Nat.not_lt_of_le a1), if_pos a2, e]
    rfl
   by_cases c1 : q < sa + k
   ·rw [tlow p (by exact Nat.lt_of_le_of_lt hpq c1), tlow q c1]
    exact h1 p q hp1 hpq (by exact bP fun hg => lN [sb, sa, na, k, q] 0x8204e50206131c2431401 rfl (Nat.le_of_eq (Eq.symm hsb)) hk1 c1 hg)
   by_cases c2 : q < sb + k2
   ·obtain ⟨y, r, ey, r1, r2, ek⟩ := hmid q (by exact Nat.le_of_not_lt c1) c2
    rw [tmid q y (by exact Nat.le_of_not_lt c1) c2 ey]
    by_cases c3 : p < sa + k
    ·rw [tlow p c3, ek]
     by_cases c4 : r < sb
     ·exact h1 p r hp1 (by exact Nat.le_of_lt (Nat.lt_of_lt_of_le c3 r1)) c4
     ·exact KeyOrd.kle_trans (hk2' p hp1 c3) (h2 sb r (Nat.le_refl _) (by exact Nat.le_of_not_lt c4) (by exact bP fun hg => lN [sb, nb, k2, r] 0xe520026200e3094c1 rfl l1 r2 hg))
    ·obtain ⟨x, r', ex, r1', r2', ek'⟩ := hmid p (by exact Nat.le_of_not_lt c3) (by exact Nat.lt_of_le_of_lt hpq c2)
     rw [tmid p x (by exact Nat.le_of_not_lt c3) (by exact Nat.lt_of_le_of_lt hpq c2) ex]
     by_cases c5 : p = q
     ·subst c5
      rw [ex] at ey
      cases ey
      exact KeyOrd.kle_refl _
     ·have hp3 : p - (sa + k) < m.toList.length := by exact bP fun hg => lN [sb, sa, k, k2, (m.toList.length), (sb + k2 - (sa + k)), p, q, (p - (sa + k))] 0x3101518a06002628120390013900b1856a0a121 rfl (Nat.le_of_eq (Eq.symm hlen)) hpq c2 (aq (sb + k2) (sa + k)) (ar (aD fun hg => lN [sa, k, p] 0x148030c2629001 rfl (Nat.le_of_not_lt c3) hg)) hg
      have hq3 : q - (sa + k) < m.toList.length := by exact bP fun hg => lN [sb, sa, k, k2, (m.toList.length), (sb + k2 - (sa + k)), q, (q - (sa + k))] 0x5a02a3140b004c50240720027201430a121 rfl (Nat.le_of_eq (Eq.symm hlen)) c2 (aq (sb + k2) (sa + k)) (ar (aD fun hg => lN [sa, k, q] 0x148030c2629001 rfl (Nat.le_of_not_lt c1) hg)) hg
      have := List.pairwise_iff_getElem.mp hG.srt (p - (sa + k)) (q - (sa + k)) hp3 hq3 (by exact bP fun hg => Or.elim (Nat.lt_or_gt_of_ne e1) (fun hs0 => lN [na, k, (na - k)] 0x986129804090a1 rfl hk1 (aq (na) (k)) hs0) (fun hs0 => Or.elim (Nat.lt_or_gt_of_ne c5) (fun hs1 => lN [sa, k, p, q, (p - (sa + k)), (q - (sa + k))] 0x730c28484a402407098a402001 rfl (ar (aD fun hg => lN [sa, k, p] 0x148030c2629001 rfl (Nat.le_of_not_lt c3) hg)) (aq (q) (sa + k)) hg hs1) (fun hs1 => lN [p, q] 0x10a309481 rfl hpq hs1)))
      rw [List.getElem?_eq_getElem hp3] at ex
      rw [List.getElem?_eq_getElem hq3] at ey
      rw [Option.some.inj ex, Option.some.inj ey] at this
      exact this
   ·rw [thigh q (by exact Nat.le_of_not_lt c2)]
    by_cases c3 : p < sa + k
    ·rw [tlow p c3]
     exact KeyOrd.kle_trans (hk2' p hp1 c3) (h2 sb q (Nat.le_refl _) (by exact aD fun hg => lN [sb, k2, q] 0x430c2629001 rfl (Nat.le_of_not_lt c2) hg) hq)
    by_cases c4 : p < sb + k2
    ·obtain ⟨x, r', ex, r1', r2', ek'⟩ := hmid p (by exact Nat.le_of_not_lt c3) c4
     rw [tmid p x (by exact Nat.le_of_not_lt c3) c4 ex, ek']
     by_cases c5 : r' < sb
     ·exact KeyOrd.kle_trans (h1 r' (sb - 1) (by exact Nat.le_trans (Nat.le_add_right _ _) r1') (by exact aD fun hg => lN [sb, sa, na, k, (na - k), (sa + k + (na - k) - 1), (sb - 1), r'] 0xb50c291a0e500027400c122c615242628081 rfl (Nat.le_of_eq hsb) (Nat.le_of_eq elast) c5 (aq (na) (k)) (aq (sa + k + (na - k)) (1)) hg) (by exact bP fun hg => lN [sb, sa, na, k, (na - k), (sa + k + (na - k) - 1), (sb - 1)] 0x510283940048c263a0014a82431401 rfl (Nat.le_of_eq (Eq.symm hsb)) (Nat.le_of_eq (Eq.symm elast)) (ar (aD fun hg => lN [na, k] 0x1483090a1 rfl hk1 hg)) (ar (aD fun hg => lN [sa, na, k, (na - k)] 0x842731000184c70142500461 rfl hna (aq (na) (k)) hg)) hg)) (l3' q (by exact Nat.le_of_not_lt c2) hq)
     ·exact h2 r' q (by exact Nat.le_of_not_lt c5) (by exact aD fun hg => lN [sb, k2, q, r'] 0x1cc30948038c2629001 rfl (Nat.le_of_not_lt c2) r2' hg) hq
    ·rw [thigh p (by exact Nat.le_of_not_lt c4)]
     exact h2 p q (by exact aD fun hg => lN [sb, k2, p] 0x430c2629001 rfl (Nat.le_of_not_lt c4) hg) hpq hq
 have bx : 0 < ((arrOf st).extract (sa + k) sb).size := by exact bP fun hg => Or.elim (Nat.lt_or_gt_of_ne e1) (fun hs0 => lN [na, k, (na - k)] 0x986129804090a1 rfl hk1 (aq (na) (k)) hs0) (fun hs0 => lN [sb, sa, na, k, (na - k), (((arrOf st).extract (sa + k) sb).size), (sb - (sa + k))] 0x800461005213940a010263a0014a82431401 rfl (Nat.le_of_eq (Eq.symm hsb)) (Nat.le_of_eq (Eq.symm hxs)) (ar (aD fun hg => lN [na, k] 0x1483090a1 rfl hk1 hg)) (aq (sb) (sa + k)) hg hs0)
 have by' : 0 < ((arrOf st).extract sb (sb + k2)).size := by exact bP fun hg => Or.elim (Nat.lt_or_gt_of_ne e1) (fun hs0 => lN [na, k, (na - k)] 0x986129804090a1 rfl hk1 (aq (na) (k)) hs0) (fun hs0 => Or.elim (Nat.lt_or_gt_of_ne e2) (fun hs1 => lN [k2] 0x9061 rfl hs1) (fun hs1 => lN [k2, (((arrOf st).extract sb (sb + k2)).size)] 0x200230802509481 rfl (Nat.le_of_eq (Eq.symm hys)) hg hs1))
 refine bH (fun e3 => ?_) (fun e3 => ?_)
 ·refine wpS_bind (wJ hL hxm hym hsx hsy bx by' hfst hlst hB.kind fun m st' hG hS => ?_)
  obtain ⟨hf, hq⟩ := fin m st' hG hS
  refine dy ?_
  refine cI (wpS_pure ?_)
  show Q (failedOf st').isNone _
  rw [hf]
  exact hq
 ·refine wpS_bind (wK hL hxm hym hsx hsy bx by' hfst hlst hB.kind fun m st' hG hS => ?_)
  obtain ⟨hf, hq⟩ := fin m st' hG hS
  refine dy ?_
  refine cI (wpS_pure ?_)
  show Q (failedOf st').isNone _
  rw [hf]
  exact hq
end walk
end Mine
end
noncomputable section
namespace Mine
open PySem PyProof.Rows
section pure
variable {O : KeyOrd} {key : Keyed → O.α}
noncomputable def Runs (key : Keyed → O.α) (arr : Array Keyed) : List (Nat × Nat × Nat) → Nat → Nat → Prop
 | [], a, b => a = b
 | r :: rs, a, b => r.1 = a ∧ 0 < r.2.1 ∧ i6 key arr a (a + r.2.1) ∧ Runs key arr rs (a + r.2.1) b
theorem ew {arr : Array Keyed} : ∀ {p q : List (Nat × Nat × Nat)} {a b : Nat}, Runs key arr (p ++ q) a b ↔ ∃ c, Runs key arr p a c ∧ Runs key arr q c b
 | [], q, a, b => ⟨fun h => ⟨a, rfl, h⟩, fun ⟨c, e, h⟩ => by cases (e : a = c); exact h⟩
 | r :: p, q, a, b => by
  show (r.1 = a ∧ 0 < r.2.1 ∧ i6 key arr a (a + r.2.1) ∧ Runs key arr (p ++ q) (a + r.2.1) b) ↔ _
  rw [ew]
  exact ⟨fun ⟨h1, h2, h3, c, h4, h5⟩ => ⟨c, ⟨h1, h2, h3, h4⟩, h5⟩, fun ⟨c, ⟨h1, h2, h3, h4⟩, h5⟩ => ⟨h1, h2, h3, c, h4, h5⟩⟩
theorem il {arr : Array Keyed} : ∀ {p : List (Nat × Nat × Nat)} {a b : Nat}, Runs key arr p a b → a + p.length ≤ b
 | [], a, b, h => by cases (h : a = b); exact Nat.le_refl _
 | r :: p, a, b, ⟨_, h2, _, h4⟩ => by
  rw [List.length_cons, Nat.add_comm p.length 1, ← Nat.add_assoc]
  exact Nat.le_trans (Nat.add_le_add_right (Nat.add_le_add_left h2 a) _) (il h4)
theorem ll {arr arr' : Array Keyed} {i j : Nat} (h : i6 key arr i j) (e : ∀ k, i ≤ k → k < j → arr'[k]? = arr[k]?) : i6 key arr' i j := by
 intro p q h1 h2 h3
 rw [co (e p h1 (by exact Nat.lt_of_le_of_lt h2 h3)), co (e q (by exact Nat.le_trans h1 h2) h3)]
 exact h p q h1 h2 h3
theorem dK {arr arr' : Array Keyed} : ∀ {p : List (Nat × Nat × Nat)} {a b : Nat}, Runs key arr p a b → (∀ k, a ≤ k → k < b → arr'[k]? = arr[k]?) → Runs key arr' p a b
 | [], a, b, h, _ => h
 | r :: p, a, b, ⟨h1, h2, h3, h4⟩, e => by
  have := il h4
  exact ⟨h1, h2, ll h3 fun k a1 a2 => e k a1 (by exact bP fun hg => lN [a, (r.snd.fst), (p.length), b, k] 0x41c252010309cc520001 rfl this a2 hg), dK h4 fun k a1 a2 => e k (by exact Nat.le_trans (Nat.le_add_right _ _) a1) a2⟩
theorem je {α : Type} {f : α → α} {t : α} : ∀ (p : List α), (p ++ [t]).modify p.length f = p ++ [f t]
 | [] => rfl
 | x :: p => by
  show x :: (p ++ [t]).modify p.length f = x :: (p ++ [f t])
  rw [je p]
theorem sf {arr : Array Keyed} {p : List (Nat × Nat × Nat)} {a b : Nat} {s n u v : Nat} (h : Runs key arr (p ++ [(s, n, u)]) a b) : Runs key arr (p ++ [(s, n, v)]) a b := by
 rw [ew] at h ⊢
 exact h
end pure
section walk
variable {prog : Program} {w : World} {A : Around} {E : Value → Shared → Prop} {s : Shared} {kd : SortKind} {O : KeyOrd} {key : Keyed → O.α} {a₀ : Array Keyed}
theorem i9 {st : SortSt} {i lo : Nat} {Q : Bool → SortSt → Prop} (hL : eV prog w A E s kd O key a₀) (hB : SB kd a₀ st) (hR : Runs key (arrOf st) (pendingOf st).toList 0 lo) (hlo : lo ≤ a₀.size)
  (hi : i + 1 < (pendingOf st).size)
  (h : ∀ st', SB kd a₀ st' → Runs key (arrOf st') (pendingOf st').toList 0 lo → (pendingOf st').size + 1 = (pendingOf st).size → (∀ k, lo ≤ k → (arrOf st')[k]? = (arrOf st)[k]?) → Q true st') :
  wpS (model prog w) A E s (mergeAt' i) Q st := by
 have hl : (pendingOf st).toList.length = (pendingOf st).size := Array.length_toList
 obtain ⟨p1, x, y, p2, e, e1⟩ : ∃ p1 x y p2, (pendingOf st).toList = p1 ++ x :: y :: p2 ∧ i = p1.length := by
  refine ⟨(pendingOf st).toList.take i, (pendingOf st).toList[i], (pendingOf st).toList[i + 1], (pendingOf st).toList.drop (i + 2), ?_, ?_⟩
  ·rw [List.getElem_cons_drop, List.getElem_cons_drop, List.take_append_drop]
  ·rw [List.length_take]; exact Nat.le_antisymm (aD fun hg => Or.elim (bJ (i) ((pendingOf st).toList.length)) (fun hs0 => lN [i, (min i (pendingOf st).toList.length)] 0x148121461 rfl hg hs0) (fun hs0 => lN [i, ((pendingOf st).size), (min i (pendingOf st).toList.length)] 0x3142430c2520c61 rfl hi hg hs0)) (aD fun hg => lN [i, (min i (pendingOf st).toList.length)] 0x1483090a1 rfl (Nat.min_le_left (i) ((pendingOf st).toList.length)) hg)
 obtain ⟨sa, na, pw⟩ := x
 obtain ⟨sb, nb, pw2⟩ := y
 rw [e] at hR
 obtain ⟨c, R1, a1, a2, a3, b1, b2, b3, R2⟩ := ew.mp hR
 dsimp only at a1 a2 a3 b1 b2 b3 R2
 have hc := il R1
 have hd := il R2
 subst a1
 subst b1
 refine px hL hB e e1 rfl a2 b2 (by exact aD fun hg => lN [lo, (a₀.size), na, nb, sa, (p2.length)] 0x3990001461224e64000009481 rfl hlo hd hg) a3 b3 fun st' hB' hp' hk' hs' => h st' hB' ?_ ?_ ?_
 ·rw [hp', ew]
  refine ⟨sa, dK R1 fun k _ h2 => hk' k (.inl h2), rfl, ?_, ?_, ?_⟩
  ·show 0 < na + nb
   exact Nat.le_trans a2 (Nat.le_add_right _ _)
  ·show i6 key (arrOf st') sa (sa + (na + nb))
   rw [← Nat.add_assoc]
   exact hs'
  ·show Runs key (arrOf st') p2 (sa + (na + nb)) lo
   rw [← Nat.add_assoc]
   exact dK R2 fun k h1 _ => hk' k (.inr h1)
 ·have h1 : (pendingOf st').toList.length = (pendingOf st').size := Array.length_toList
  rw [← h1, ← hl, hp', e]
  rw [List.length_append, List.length_append]
  rfl
 ·exact fun k hk => hk' k (.inr (by exact aD fun hg => lN [lo, na, nb, sa, (p2.length), k] 0x314e00246149024418a700001 rfl hd hk hg))
theorem uR {α β : Type} {st : SortSt} {c : Prop} [Decidable c] {t e : StateT SortSt Sem α} {Q : α → SortSt → Prop} {G : β → StateT SortSt Sem α} (H : β → SortSt → Prop) (x : β) (he : e = G x)
  (key : ∀ x' st', H x' st' → wpS (model prog w) A E s (G x') Q st') (h1 : c → (∀ x' st', H x' st' → wpS (model prog w) A E s (G x') Q st') → wpS (model prog w) A E s t Q st) (h2 : ¬c → H x st) :
  wpS (model prog w) A E s (if c then t else e) Q st := bH (fun h => h1 h key) (fun h => he ▸ key x st (h2 h))
structure RunAt (kd : SortKind) (key : Keyed → O.α) (a₀ : Array Keyed) (lo n : Nat) (st : SortSt) : Prop where
 b : SB kd a₀ st
 r : Runs key (arrOf st) (pendingOf st).toList 0 lo
 n1 : 1 ≤ n
 n2 : lo + n ≤ a₀.size
 s : i6 key (arrOf st) lo (lo + n)
structure Wait (kd : SortKind) (key : Keyed → O.α) (a₀ : Array Keyed) (lo : Nat) (st3 st4 : SortSt) : Prop where
 b : SB kd a₀ st4
 r : Runs key (arrOf st4) (pendingOf st4).toList 0 lo
 z : 0 < (pendingOf st4).size
 k : ∀ k, lo ≤ k → (arrOf st4)[k]? = (arrOf st3)[k]?
theorem tH {st : SortSt} {Q : Unit → SortSt → Prop} (hL : eV prog w A E s kd O key a₀) (hB : SB kd a₀ st) (hP : pendingOf st = #[])
  (h : ∀ st', (arrOf st').Perm a₀ → failedOf st' = none → i6 key (arrOf st') 0 a₀.size → Q () st') : wpS (model prog w) A E s sortRuns' Q st := by
 rw [sortRuns'_eq]
 refine cI ?_
 simp only [hB.size]
 generalize minRun' a₀.size a₀.size 0 = mr
 refine dp (fun x c st' => ∃ lo, c = (none, lo) ∧ SB kd a₀ st' ∧ Runs key (arrOf st') (pendingOf st').toList 0 lo ∧ lo ≤ a₀.size ∧ x ≤ lo)
  (fun c st' => c = (none, a₀.size) ∧ SB kd a₀ st' ∧ Runs key (arrOf st') (pendingOf st').toList 0 a₀.size) ?step ?fin ⟨0, rfl, hB, by rw [hP]; rfl, Nat.zero_le _, Nat.le_refl _⟩ ?post
 case fin =>
  rintro c st' ⟨lo, rfl, hB', hR, h1, h2⟩
  have : lo = a₀.size := by exact Nat.le_antisymm (aD fun hg => lN [lo, (a₀.size)] 0x10a309481 rfl h1 hg) (aD fun hg => lN [lo, (a₀.size)] 0x1483090a1 rfl h2 hg)
  subst this
  exact ⟨rfl, hB', hR⟩
 case step =>
  rintro F hF x c st' ⟨lo, rfl, hB', hR, h1, h2⟩
  subst hF
  refine bH (fun e1 => ?_) (fun e1 => ?_)
  ·have : lo = a₀.size := by exact Nat.le_antisymm h1 e1
   subst this
   exact wpS_pure ⟨rfl, hB', hR⟩
  refine fJ fun K hK => rZ hL (by exact aD fun hg => lN [lo, (a₀.size), (a₀.size - (none, lo).snd)] 0x188028c2521801 rfl (ar (aD fun hg => lN [lo, (a₀.size)] 0x10a309481 rfl h1 hg)) hg) (Nat.sub_pos_of_lt (Nat.lt_of_not_le e1)) hB' fun m st2 hB2 hK2 hm1 hm2 hs2 => ?_
  have hR2 : Runs key (arrOf st2) (pendingOf st2).toList 0 lo := by rw [hK2.pend]; exact dK hR fun k _ hk => hK2.low k hk
  have hx : x ≤ lo := h2
  clear hK2 hR hB' h2
  subst hK
  dsimp only
  refine' uR (RunAt kd key a₀ lo) m ?he ?_ (fun e2 K => ?_) (fun _ => ⟨hB2, hR2, hm1, by exact aD fun hg => lN [lo, (a₀.size), m, (a₀.size - (none, lo).snd)] 0xc401461290e009cc1 rfl hm2 (ar (aD fun hg => lN [lo, (a₀.size)] 0x10a309481 rfl h1 hg)) hg, hs2⟩)
  case he => apply Eq.refl
  ·clear hB2 hm1 hm2 hs2 hR2
   rintro n st3 ⟨hB3, hR3, hn1, hn2, hs3⟩
   refine cI ?_
   cases hb : (pendingOf st3).back? with
   | none =>
    refine dy (wpS_pure ⟨_, rfl, ⟨hB3.perm, hB3.kind, hB3.failed⟩, ?_, hn2, by exact aD fun hg => lN [lo, x, n] 0x14662006130421090a1 rfl hx hn1 hg⟩)
    show Runs key (arrOf st3) ((pendingOf st3).push _).toList 0 _
    rw [Array.toList_push, ew]
    exact ⟨lo, hR3, rfl, hn1, hs3, rfl⟩
   | some t =>
    obtain ⟨s1, n1, o1⟩ := t
    refine dp (fun y c st4 => c = (none, ()) ∧ Wait kd key a₀ lo st3 st4) (fun c st4 => c = (none, ()) ∧ Wait kd key a₀ lo st3 st4) ?_ (fun _ _ hh => hh) ⟨rfl, hB3, hR3, ?_, fun _ _ => rfl⟩ ?_
    ·rintro F hF y c st4 ⟨rfl, hW⟩
     subst hF
     refine cI ?_
     by_cases hz : (pendingOf st4).size > 1
     ·rw [if_pos hz, getElem?_pos (pendingOf st4) ((pendingOf st4).size - 2) (by exact bP fun hg => lN [((pendingOf st4).size), ((pendingOf st4).size - 2)] 0xa40904109401 rfl (ar (aD fun hg => lN [((pendingOf st4).size)] 0x104241848108461 rfl hz hg)) hg)]
      refine bH (fun e5 => wpS_pure ⟨rfl, hW⟩) (fun e5 => ?_)
      refine wpS_bind (i9 hL hW.b hW.r h1 (by exact bP fun hg => lN [((pendingOf st4).size), ((pendingOf st4).size - 2)] 0x14640904109401 rfl (ar (aD fun hg => lN [((pendingOf st4).size)] 0x104241848108461 rfl hz hg)) hg) fun st5 hB5 hR5 hz5 hk5 => ?_)
      exact wpS_pure ⟨rfl, hB5, hR5, by exact bP fun hg => lN [((pendingOf st4).size), ((pendingOf st5).size)] 0x1284a32048108461 rfl hz (Nat.le_of_eq (Eq.symm hz5)) hg, fun k hk => (hk5 k hk).trans (hW.k k hk)⟩
     ·rw [if_neg hz]
      exact wpS_pure ⟨rfl, hW⟩
    ·rcases Nat.eq_zero_or_pos (pendingOf st3).size with h0 | h0
     ·rw [Array.eq_empty_of_size_eq_zero h0] at hb; simp at hb
     ·exact h0
    ·rintro K hK c st4 ⟨rfl, hB4, hR4, hz4, hk4⟩
     subst hK
     refine dy ?_
     refine dy (wpS_pure ⟨_, rfl, ⟨hB4.perm, hB4.kind, hB4.failed⟩, ?_, hn2, by exact aD fun hg => lN [lo, x, n] 0x14662006130421090a1 rfl hx hn1 hg⟩)
     show Runs key (arrOf st4) (Array.push (Array.modify (pendingOf st4) ((pendingOf st4).size - 1) _) _).toList 0 _
     rw [Array.toList_push, ew]
     refine ⟨lo, ?_, rfl, hn1, ll hs3 fun k hk _ => hk4 k hk, rfl⟩
     have hl : (pendingOf st4).toList.length = (pendingOf st4).size := Array.length_toList
     obtain ⟨p, t, et⟩ : ∃ p t, (pendingOf st4).toList = p ++ [t] := by
      have hne' : (pendingOf st4).toList ≠ [] := fun h0 => by rw [h0] at hl; simp at hl; exact lN [((pendingOf st4).size)] 0x902400461 rfl hz4 (Nat.le_of_eq (Eq.symm hl))
      exact ⟨_, _, (List.dropLast_concat_getLast hne').symm⟩
     rw [Array.toList_modify, ← hl, et, List.length_append, List.length_singleton, Nat.add_sub_cancel]
     obtain ⟨u, v, z⟩ := t
     rw [et] at hR4
     rw [je]
     exact sf hR4
  ·refine eo ?_
   refine wpS_bind (uS hL (Nat.le_trans (Nat.add_le_add_left (Nat.min_le_left _ _) lo) (Nat.le_of_eq (Nat.add_sub_cancel' h1))) (by exact aD fun hg => Or.elim (a8 (a₀.size) ((none, lo).snd)) (fun hs0 => Or.elim (bJ (a₀.size - lo) (mr)) (fun hs1 => lN [m, (a₀.size - (none, lo).snd), (min (a₀.size - lo) mr)] 0xc5090c309481 rfl hm2 hg hs1) (fun hs1 => lN [m, mr, (min (a₀.size - lo) mr)] 0x18a12186129061 rfl e2 hg hs1)) (fun hs0 => lN [m, (a₀.size - (none, lo).snd)] 0x4a12902408421 rfl hm1 hm2 (Nat.le_of_eq hs0))) hB2 hs2 fun st3 hB3 hK3 hs3 => ?_)
   exact K _ st3 ⟨hB3, by rw [hK3.pend]; exact dK hR2 fun k _ hk => hK3.low k hk, by exact aD fun hg => Or.elim (a8 (a₀.size) ((none, lo).snd)) (fun hs0 => Or.elim (bJ (a₀.size - lo) (mr)) (fun hs1 => lN [m, (a₀.size - (none, lo).snd), (min (a₀.size - lo) mr)] 0x628421098612902408421 rfl hm1 hm2 hg hs1) (fun hs1 => lN [m, mr, (min (a₀.size - lo) mr)] 0xc50842130c2520c2408421 rfl hm1 e2 hg hs1)) (fun hs0 => lN [m, (a₀.size - (none, lo).snd)] 0x4a12902408421 rfl hm1 hm2 (Nat.le_of_eq hs0)), by omega, hs3⟩
 case post =>
  rintro K hK c st' ⟨rfl, hB', hR⟩
  subst hK
  refine dp (fun x c st'' => c = (none, ()) ∧ SB kd a₀ st'' ∧ Runs key (arrOf st'') (pendingOf st'').toList 0 a₀.size ∧ (pendingOf st'').size + x ≤ a₀.size)
   (fun c st'' => c = (none, ()) ∧ SB kd a₀ st'' ∧ Runs key (arrOf st'') (pendingOf st'').toList 0 a₀.size ∧ (pendingOf st'').size ≤ 1) ?cstep ?cfin ?cinit ?cpost
  case cinit =>
   have := il hR
   rw [Array.length_toList] at this
   exact ⟨rfl, hB', hR, by exact Nat.le_trans (Nat.le_add_left _ _) this⟩
  case cfin =>
   rintro c st'' ⟨rfl, hB4, hR4, hx⟩
   exact ⟨rfl, hB4, hR4, by exact aD fun hg => lN [((pendingOf st'').size), (max 0 a₀.size)] 0x102108c2529001 rfl hx hg⟩
  case cpost =>
   rintro K hK c st'' ⟨rfl, hB4, hR4, hx⟩
   subst hK
   refine wpS_pure (h _ hB4.perm hB4.failed ?_)
   have hl : (pendingOf st'').toList.length ≤ 1 := by rw [Array.length_toList]; exact hx
   generalize (pendingOf st'').toList = P at hR4 hl
   match P, hR4, hl with
   | [], e, _ => intro p q _ _ h3; have : (0 : Nat) = a₀.size := e; (rename_i zz1 zz0; exact False.elim (lN [p, q, (a₀.size)] 0x26098a30948120021 rfl zz1 zz0 h3 (Nat.le_of_eq (Eq.symm this))))
   | [r], ⟨_, _, h3, h4⟩, _ => rw [show a₀.size = 0 + r.2.1 from (h4 : 0 + r.2.1 = a₀.size).symm]; exact h3
   | _ :: _ :: _, _, hl => simp at hl
  case cstep =>
   rintro F hF x c st'' ⟨rfl, hB4, hR4, hx4⟩
   subst hF
   refine cI ?_
   refine bH (fun e1 => ?_) (fun e1 => ?_)
   ·exact wpS_pure ⟨rfl, hB4, hR4, e1⟩
   refine wpS_bind (i9 hL hB4 hR4 (Nat.le_refl _) ?_ fun st5 hB5 hR5 hz5 _ => ?_)
   ·have hif : ∀ (c : Prop) [Decidable c] (n : Nat), 1 < n → (if c then n - 2 - 1 else n - 2) + 1 < n := by intro c _ n hn; split <;> (first | exact bP fun hg => Or.elim (a8 (n - 2) (1)) (fun hs0 => lN [n, (n - 2 - 1), (n - 2)] 0x18a3094640904109801 rfl (ar (aD fun hg => lN [n] 0x104241848108461 rfl hn hg)) hg (Nat.le_of_eq hs0)) (fun hs0 => lN [n, (n - 2 - 1)] 0x1284a32048108461 rfl hn hg (Nat.le_of_eq hs0)) | exact bP fun hg => lN [n, (n - 2)] 0x14640904109401 rfl (ar (aD fun hg => lN [n] 0x104241848108461 rfl hn hg)) hg)
    exact hif _ _ (by exact Nat.lt_of_not_le e1)
   ·exact wpS_pure ⟨rfl, hB5, hR5, by exact aD fun hg => lN [((pendingOf st'').size), x, (a₀.size), ((pendingOf st5).size)] 0x28ce030c2438c2629001 rfl hx4 (Nat.le_of_eq hz5) hg⟩
end walk
end Mine
end
noncomputable section
namespace Mine
open PySem PyProof.Rows
section
variable {prog : Program} {w : World} {A : Around} {E : Value → Shared → Prop} {s : Shared} {kd : SortKind} {O : KeyOrd} {key : Keyed → O.α}
theorem tM {arr : Array Keyed} (h : i6 key arr 0 arr.size) : hH key arr.toList := by
 refine List.pairwise_iff_getElem.mpr fun i j hi hj hij => ?_
 rw [Array.length_toList] at hi hj
 have := h i j (Nat.zero_le _) (Nat.le_of_lt hij) hj
 rw [bo hi, bo hj] at this
 simpa using this
theorem qk {a : Addr} {vs : List Value} {n : Nat} {P : Fin → Shared → Prop} (ho : s.heap.get? a = some (seqObj "list" vs.toArray n)) (hz : vs.length ≤ 16777216)
  (hkk : 2 ≤ vs.length → ∀ s' : Shared, (∀ b o, b ≠ a → s.heap.get? b = some o → s'.heap.get? b = some o) → ∀ Q : SortKind → Shared → Prop, Q kd s' → wpAny (model prog w) A (keyKind' vs.toArray) Q E s')
  (hL : ∀ s' : Shared, (∀ b o, b ≠ a → s.heap.get? b = some o → s'.heap.get? b = some o) → eV prog w A E s' kd O key (pairsOf vs))
  (h : ∀ out : List Value, out.Perm vs → (out.Pairwise fun x y => O.kle (key (x, x)) (key (y, y))) → P (.done (.ret .none)) { s with heap := sortedHeap s.heap a vs out.toArray }) :
  wpAny (model prog w) A (Builtin.«list.sort» ⟨[.ref a], []⟩) P E s := by
 rw [list_sort_plain]
 have hsl : sizeLine = 16777216 := sizeLine_eq
 have ha : a < s.heap.objs.size := Heap.lt_size ho
 refine wpAny_bind (listItems_at ho rfl ?_)
 refine wpAny_bind (listUpdate_at ho rfl ?_ (hsz := by rw [List.size_toArray]; exact hz) (hsz2 := by simp))
 obtain ⟨e1, ho1⟩ : ∃ e1, (s.heap.update a (Obj.mapSeq fun _ => #[])).get? a = some (seqObj "list" #[] e1) := ⟨_, get?_update_seq ho (fun _ => #[])⟩
 refine wpAny_bind (seqEpoch_at ho1 rfl ?_)
 refine wpAny_bind (wpAny_newTuple ?_ (by rw [List.toList_toArray]; exact hz))
 refine wpAny_bind (wpAny_newList ?_)
 refine wpAny_holding ?_
 have ho6 : (((s.heap.update a (Obj.mapSeq fun _ => #[])).push (seqObj "tuple" vs.toArray 0)).push (seqObj "list" #[] 0)).get? a = some (seqObj "list" #[] e1) := by
  rw [Heap.get?_push_ne _ _ _ (by rw [size_push', Heap.size_update]; exact Nat.ne_of_lt (Nat.lt_succ_of_lt ha)), Heap.get?_push_ne _ _ _ (by rw [Heap.size_update]; exact Nat.ne_of_lt ha)]
  exact ho1
 have hkeep : ∀ b o, b ≠ a → s.heap.get? b = some o → (((s.heap.update a (Obj.mapSeq fun _ => #[])).push (seqObj "tuple" vs.toArray 0)).push (seqObj "list" #[] 0)).get? b = some o := by
  intro b o hb e
  have hlt := Heap.lt_size e
  rw [Heap.get?_push_ne _ _ _ (by rw [size_push', Heap.size_update]; exact Nat.ne_of_lt (Nat.lt_succ_of_lt hlt)), Heap.get?_push_ne _ _ _ (by rw [Heap.size_update]; exact Nat.ne_of_lt hlt), Heap.get?_update_ne _ _ _ _ hb]
  exact e
 show wpAny (model prog w) A _ P E { s with heap := ((s.heap.update a (Obj.mapSeq fun _ => #[])).push (seqObj "tuple" vs.toArray 0)).push (seqObj "list" #[] 0) }
 dsimp only
 have hsz : vs.toArray.size = vs.length := by simp
 have fin : ∀ st' : SortSt, (arrOf st').Perm (pairsOf vs) → i6 key (arrOf st') 0 (pairsOf vs).size →
   P (.done (.ret .none)) { s with heap := sortedHeap s.heap a vs ((arrOf st').map (·.2)) } := by
  intro st' hp hs
  have hl : (arrOf st').toList.Perm (vs.zip vs) := by rw [← pairsOf_toList]; exact Array.perm_iff_toList_perm.mp hp
  have hmem : ∀ p, p ∈ (arrOf st').toList → p.1 = p.2 := fun p hp' => (mem_zip_self (hl.mem_iff.mp hp')).1
  have e : ((arrOf st').map (·.2)) = ((arrOf st').toList.map (·.2)).toArray := by rw [← Array.toList_map, Array.toArray_toList]
  rw [e]
  refine h _ ?_ ?_
  ·have := hl.map (·.2)
   rwa [List.map_snd_zip (Nat.le_refl _)] at this
  ·rw [← hp.size_eq] at hs
   have hsr := tM hs
   rw [List.pairwise_map]
   refine hsr.imp_of_mem fun {x y} hx hy hxy => ?_
   have ex : (x.2, x.2) = x := Prod.ext (hmem x hx).symm rfl
   have ey : (y.2, y.2) = y := Prod.ext (hmem y hy).symm rfl
   rw [ex, ey]
   exact hxy
 by_cases h2 : vs.toArray.size < 2
 ·rw [if_pos h2, if_pos h2]
  refine wpAny_bind (wpAny_pure ?_)
  rw [StateT.run_pure]
  refine wpAny_bind (wpAny_pure ?_)
  dsimp only
  refine wpAny_bind (seqEpoch_at ho6 rfl ?_)
  refine wpAny_bind (listUpdate_at ho6 rfl ?_ (hsz2 := by rw [Array.size_map]; show (pairsOf vs).size ≤ _; rw [pairsOf_size]; exact Nat.le_succ_of_le hz))
  simp only [bne_self_eq_false, Bool.false_eq_true, if_false]
  refine wpAny_pure (fin (SortSt.mk' general' (vs.toArray.zip vs.toArray) #[] 7 none) (Array.Perm.refl _) ?_)
  intro i j _ hij hj
  have : i = j := by rw [pairsOf_size] at hj; omega
  subst this; exact KeyOrd.kle_refl _
 ·rw [if_neg h2, if_neg h2]
  refine wpAny_bind (hkk (by exact Nat.le_of_not_lt h2) _ hkeep _ ?_)
  refine wpAny_bind (wpAny_mono (tH (a₀ := pairsOf vs) (st := SortSt.mk' kd (vs.toArray.zip vs.toArray) #[] 7 none)
   (Q := fun _ st' => (arrOf st').Perm (pairsOf vs) ∧ failedOf st' = none ∧ i6 key (arrOf st') 0 (pairsOf vs).size)
   (hL _ hkeep) ⟨Array.Perm.refl _, rfl, rfl⟩ rfl fun st' a1 a2 a3 => ⟨a1, a2, a3⟩) ?_ fun _ _ e => e)
  rintro ⟨⟨⟩, st'⟩ s' ⟨rfl, hp, hf, hs⟩
  dsimp only
  refine wpAny_bind (seqEpoch_at ho6 rfl ?_)
  refine wpAny_bind (listUpdate_at ho6 rfl ?_ (hsz2 := by refine Nat.le_trans (Nat.le_of_eq ((Array.size_map ..).trans (hp.size_eq.trans (pairsOf_size _)))) ?_; exact Nat.le_succ_of_le hz))
  rw [hf]
  simp only [bne_self_eq_false, Bool.false_eq_true, if_false]
  exact wpAny_pure (fin st' hp hs)
theorem vz {κ : PyProof.Rows.KeyKind} (hO : κ.OneLt) {a₀ : Array Keyed} (h0 : KeysOf κ a₀) : eV prog w A E s oneType' κ.toKeyOrd (fun p => (κ.keyOf p.1).getD κ.dflt) a₀ := by
 intro x y hx hy Q st hk h
 obtain ⟨ax, ex⟩ := h0 x hx
 obtain ⟨ay, ey⟩ := h0 y hy
 dsimp only at h
 rw [ex, ey] at h
 rw [lt'_eq]
 refine cI ?_
 rw [hk, keyLt'_oneType]
 refine wpS_bind (wpS_lift (wpAny_attempt (hO prog w A _ s x.1 y.1 ax ay ex ey ⟨rfl, ?_⟩)))
 exact wpS_pure h
theorem q0 {a : Addr} {vs : List Value} {ss : List Str} {n : Nat} {P : Fin → Shared → Prop} (ho : s.heap.get? a = some (seqObj "list" vs.toArray n)) (hz : vs.length ≤ 16777216) (hS : StrsAre vs ss)
  (h : ∀ (out : List Value) (ss' : List Str), StrsAre out ss' → ss'.Perm ss → (ss'.Pairwise fun x y => ¬ y.cps.toList < x.cps.toList) → P (.done (.ret .none)) { s with heap := sortedHeap s.heap a vs out.toArray }) :
  wpAny (model prog w) A (Builtin.«list.sort» ⟨[.ref a], []⟩) P E s := by
 refine qk (kd := oneType') (O := PyProof.Rows.strKind.toKeyOrd) (key := fun p => (PyProof.Rows.strKind.keyOf p.1).getD PyProof.Rows.strKind.dflt) ho hz (fun h2 s' _ Q q => ?_) (fun s' _ => vz PyProof.Rows.strKind_oneLt hS.keysOf) fun out hp hs => ?_
 ·rcases vs with _ | ⟨v₁, _ | ⟨v₂, rest⟩⟩
  ·exact absurd h2 (by decide)
  ·exact absurd h2 (Nat.lt_irrefl _)
  ·rw [keyKind_strs hS]; exact wpAny_pure q
 ·refine h out (out.map strOf) (strsAre_map out fun v hv => hS.all v (hp.mem_iff.mp hv)) ?_ ?_
  ·rw [← hS.strs]; exact hp.map _
  ·rw [List.pairwise_map]
   refine hs.imp_of_mem fun {x y} hx hy hxy => ?_
   obtain ⟨a1, t1, rfl⟩ := hS.all x (hp.mem_iff.mp hx)
   obtain ⟨a2, t2, rfl⟩ := hS.all y (hp.mem_iff.mp hy)
   have : decide (a2.cps.toList < a1.cps.toList) = false := hxy
   exact of_decide_eq_false this
end
end Mine
end
noncomputable section
namespace Mine
open PySem PyProof.Rows
section
variable {prog : Program} {w : World} {A : Around} {E : Value → Shared → Prop} {s : Shared}
end
end Mine
end
noncomputable section
namespace Mine
open PySem PyProof.Rows
section
variable {prog : Program} {w : World} {E : Value → Shared → Prop}
end
end Mine
end
noncomputable section
namespace Mine
open PySem PyProof.Rows
section
variable {prog : Program} {w : World} {A : Around} {E : Value → Shared → Prop}
end
end Mine
end
noncomputable section
namespace Mine
open PySem PyProof.Rows
end Mine
end
noncomputable section
namespace Mine
open PySem PyProof.Rows
section
variable {prog : Program} {w : World} {A : Around} {E : Value → Shared → Prop}
end
end Mine
end
noncomputable section
namespace Mine
open PySem PySem.W PyProof.Rows
section
variable {prog : Program} {w : World} {A : Around} {E : Value → Shared → Prop}
end
end Mine
end
noncomputable section
namespace Mine
open PySem PySem.W PyProof.Rows
section
variable {prog : Program} {w : World} {E : Value → Shared → Prop}
end
end Mine
end
noncomputable section
namespace Mine
open PySem PySem.W PyProof.Rows PySem.Calls
section
variable {C : Cx} {sc : Scope} {k : Nat}
theorem PRel.keys {aS : Addr} {h : Heap} {a : List (Str × V)} {b : List (Str × Value)} (x : PRel aS h a b) : a.map (·.1) = b.map (·.1) :=
 x.ind (P := fun a b => a.map (·.1) = b.map (·.1)) rfl fun _ _ _ _ _ _ _ ih => by rw [List.map_cons, List.map_cons, ih]
end
end Mine
end
noncomputable section
namespace Mine
open PySem PySem.W PyProof.Rows PySem.Calls
abbrev sM (a b : Str) : Prop := ¬ cl b < cl a
noncomputable def srt (xs : List Str) : List Str := xs.mergeSort fun a b => !decide (cl b < cl a)
theorem rr {a b c : Str} (h1 : sM a b) (h2 : sM b c) : sM a c := fun h => by
 rcases (List.not_lt.mp h1 : cl a ≤ cl b) with _
 exact h1 (List.lt_of_le_of_lt (List.not_lt.mp h2) h)
theorem rt (a b : Str) : sM a b ∨ sM b a := by
 by_cases h : cl b < cl a
 ·exact .inr fun h' => List.lt_irrefl _ (List.lt_trans h h')
 ·exact .inl h
theorem sL {a b : Str} (h1 : sM a b) (h2 : sM b a) : a = b := te (List.le_antisymm (List.not_lt.mp h1) (List.not_lt.mp h2))
theorem jT (xs : List Str) : (srt xs).Perm xs := List.mergeSort_perm _ _
theorem pB (xs : List Str) : (srt xs).Pairwise sM := by
 have := List.pairwise_mergeSort (le := fun a b : Str => !decide (cl b < cl a)) (fun a b c h1 h2 => by simp only [Bool.not_eq_true', decide_eq_false_iff_not] at *; exact rr h1 h2) (fun a b => by
  rcases rt a b with h | h
  ·simp [h]
  ·simp [h]) xs
 exact this.imp fun h => by simpa using h
theorem jb : ∀ {a b : List Str}, a.Perm b → a.Pairwise sM → b.Pairwise sM → a = b
 | [], _, p, _, _ => p.nil_eq
 | x :: r, b, p, ha, hb => by
  cases b with
  | nil => exact absurd p.length_eq (by simp)
  | cons y t =>
   have hx : x ∈ y :: t := p.mem_iff.mp (.head _)
   have hy : y ∈ x :: r := p.mem_iff.mpr (.head _)
   have e : x = y := by
    rcases List.mem_cons.mp hx with h | h
    ·exact h
    ·rcases List.mem_cons.mp hy with h' | h'
     ·exact h'.symm
     ·exact sL ((List.pairwise_cons.mp ha).1 y h') ((List.pairwise_cons.mp hb).1 x h)
   subst e
   rw [jb (List.Perm.cons_inv p) (List.pairwise_cons.mp ha).2 (List.pairwise_cons.mp hb).2]
theorem uW {xs ys : List Str} (p : ys.Perm xs) (h : ys.Pairwise sM) : ys = srt xs := jb (p.trans (jT xs).symm) h (pB xs)
theorem tL {xs : List Str} {z : Str} : z ∈ srt xs ↔ z ∈ xs := (jT xs).mem_iff
theorem lZ (xs : List Str) : (srt xs).length = xs.length := (jT xs).length_eq
section
variable {C : Cx} {p : Program} {sc : Scope} {k : Nat}
theorem jS {aS : Addr} {h : Heap} : ∀ {ys : List Str} {ws : List Value}, VRels aS h (ys.map .str) ws → StrsAre ws ys
 | [], _, r => by rw [r.inv0]; exact .nil
 | y :: ys, _, r => by
  obtain ⟨w, ws, rfl, h1, r2⟩ := r.invC
  obtain ⟨t, rfl⟩ := h1.invStr
  exact .cons y t (jS r2)
theorem nH {aS : Addr} {h : Heap} {ys : List Str} {ws : List Value} (x : StrsAre ws ys) : VRels aS h (ys.map .str) ws := by
 induction x with
 | nil => exact .nil
 | cons y t r ih => exact .cons (.str y t) ih
theorem dJ {A : Around} {s : Shared} {σ : ai} {r : Value} {Q : V → ai → Prop} {P : Value → Shared → Prop} {E : Value → Shared → Prop} {ks : List Str} (ao : AOk C A k) (R : RelG C σ s)
  (hcol : ∀ R' : List Value → Shared → Prop, (∀ (h' : Heap) (tk : Nat) (d : Drawn) (vs : List Value) (ks' : List Str), (∀ b o, s.heap.get? b = some o → h'.get? b = some o) → s.heap.objs.size ≤ h'.objs.size → StrsAre vs ks' → ks'.Perm ks → R' vs { s with heap := h', toks := tk, drawn := d }) →
   wpAny (model C.prog C.w) A.in1 (collect r) R' E s) (hz : ks.length ≤ 16777216)
  (q : dc ((srt ks).map .str) σ Q) (hP : uC C σ s Q P) : wpAny (model C.prog C.w) A (PySem.call (.builtin "sorted") [r]) P E s := by
 refine call_function_entry kind_sorted plain_sorted entry_sorted (args_sorted1 _) ?_
 unfold Builtin.«sorted»
 refine wpAny_bind (m := checkCount "sorted" 1 1 _) (wpAny_pure ?_)
 refine wpAny_bind (hcol _ fun h' tk d vs ks' hk hsz hs hp => ?_)
 have hvl : vs.length = ks.length := by rw [← hp.length_eq, ← hs.strs, List.length_map]
 refine wpAny_bind (wpAny_newList ?_ (by rw [hvl, sizeLine_eq]; exact hz))
 have hoL : (h'.push (seqObj "list" vs.toArray 0)).get? h'.objs.size = some (seqObj "list" vs.toArray 0) := Heap.get?_push_size _ rfl
 refine wpAny_bind (wpAny_holding (wpAny_call_entry slot_list_sort ⟨_, hoL, rfl⟩ entry_list_sort (q0 hoL (by rw [hvl]; exact hz) hs fun out ss' h1 h2 h3 => ⟨_, rfl, ?_⟩) (args_list_sort _)))
 refine wpAny_pure ⟨_, rfl, ?_⟩
 have hsr : ss' = srt ks := uW (h2.trans hp) h3
 subst hsr
 obtain ⟨e, he⟩ := sortedHeap_at (out := out.toArray) hoL
 have hk2 : ∀ b o, s.heap.get? b = some o → (sortedHeap (h'.push (seqObj "list" vs.toArray 0)) h'.objs.size vs out.toArray).get? b = some o := fun b o eb => by
  have hb := Heap.lt_size (hk b o eb)
  rw [sortedHeap_old (Nat.ne_of_lt hb) (by rw [Heap.size_push]; exact Nat.lt_succ_of_lt hb)]
  exact Heap.get?_push_of_some _ (hk b o eb)
 have hn : s.heap.get? h'.objs.size = Option.none := aI hsz
 have hsz2 : s.heap.objs.size ≤ (sortedHeap (h'.push (seqObj "list" vs.toArray 0)) h'.objs.size vs out.toArray).objs.size := Nat.le_trans hsz (Nat.le_of_lt (Heap.lt_size he))
 exact hP (.ref h'.objs.size) (.ref h'.objs.size) (aZ σ h'.objs.size (.list ((srt ks).map .str))) _ (.ref _)
  ((R.draw d).add (tk := tk) (s := { s with drawn := d }) hk2 hn ⟨by rw [List.length_map, lZ]; exact hz, out, ⟨e, he⟩, nH h1⟩) (.add hk2 hsz2 hsz) (q _ (R.freshNone hn))
theorem i3 : bootBuiltins (Str.ofString "sorted") = some (.builtin "sorted") := by decide +kernel
noncomputable def ij : b7 := fun vs σ Q => onR vs fun a => onO (σ a) (fun kvs => dc ((srt (kvs.map (·.1))).map .str) σ Q) fun xs => ∃ ks : List Str, xs = ks.map .str ∧ dc ((srt ks).map .str) σ Q
theorem lv {s : Shared} {kvs : List (Str × V)} {kws : List (Str × Value)} {vs : List Value} (h2 : PRel C.aS s.heap kvs kws) (hl : vs.length = kws.length) (hv : ∀ (j : Nat) (v : Value), vs[j]? = some v → ∃ k x, kws[j]? = some (k, x) ∧ (PySem.strKind C.prog C.w).is k v = true) : StrsAre vs (kvs.map (·.1)) := by
 rw [h2.keys]
 clear h2
 induction kws generalizing vs with
 | nil => have : vs = [] := List.length_eq_zero_iff.mp (by simpa using hl); subst this; exact .nil
 | cons q kws ih =>
  match vs, hl with
  | v :: vs, hl =>
   obtain ⟨ky, x, e1, e2⟩ := hv 0 v rfl
   simp at e1
   subst e1
   obtain ⟨t, rfl⟩ := Value.isStrOf_shape e2
   exact .cons ky t (ih (by simpa using hl) fun j v e => hv (j + 1) v (by simpa using e))
theorem rk (O : C.Ok) (hpl : C.held = Option.none) : nz C k (fun ws => PySem.call (.builtin "sorted") ws) ij := by
 intro A s σ vs ws Q P E ao R hv q hP
 replace q := onR.elim q
 obtain ⟨a, rfl, q⟩ := q
 ·obtain ⟨wa, rfl, h1⟩ := hv.inv1
  cases h1
  rcases onO.elim q with ⟨kvs, ep, hx, q⟩ | ⟨xs, hx, q⟩; rotate_left
  ·obtain ⟨ks, rfl, q⟩ := q
   obtain ⟨hz, us, h2, h3⟩ := R.view _ _ hx
   have hlen := h3.length
   refine dJ (ks := ks) ao R (fun R' hR => bv (collect_list h2.isList ?_ (by rw [← hlen, sizeLine_eq]; exact hz))) (by simpa using hz) q hP
   intro hsz
   refine hR _ s.toks s.drawn us ks (fun b o e => ?_) hsz (jS h3) (List.Perm.refl _)
   have hb := Heap.lt_size e
   rw [Heap.get?_update_ne _ _ _ _ (Nat.ne_of_lt hb)]
   exact Heap.get?_push_of_some _ e
  ·obtain ⟨hz, kws, h2, h3⟩ := R.view _ _ hx
   have hlen := h3.length
   refine dJ (ks := kvs.map (·.1)) ao R (fun R' hR => bv (kdu_collect (kdl_dict (knd := PySem.strKind C.prog C.w) (kvs := kws) (ep := ep) (O.noMods (R.apart a (by rw [hx]; simp)))) (by show A.handled = _; exact ao.none hpl) h2 (kdl_size (by omega)) fun h' tk acc hk hacc => ?_)) (by simpa using hz) q hP
   intro hsz
   exact hR h' tk s.drawn acc.toList _ hk hsz (lv h3 (by rw [Array.length_toList]; exact hacc.1) fun j v e => hacc.2 j v (by rw [← Array.getElem?_toList]; exact e)) (List.Perm.refl _)
theorem qg (G : Gl C p) (hpl : C.held = Option.none) {np pos : Pos} {es : List Expr} {L : LT} (hn : sc.names.lookup (Str.ofString "sorted") = some .globalImplicit) (hl : HL C sc k es L) (hp : aO es = true) : HE C sc k (.Call (.Name (Str.ofString "sorted") np) es [] pos) (az ij L) :=
 df G.ok (rk G.ok hpl) hn (G.free _ (by decide)) (G.blt i3 (by decide)) rfl hl hp
noncomputable def p6 (T : ET) : ET := fun m σ Q => T m σ fun v σ₁ => ∃ a kvs ep, v = .ref a ∧ σ₁ a = some (.dict kvs ep) ∧ dc ((srt (kvs.map (·.1))).map .str) σ₁ Q
theorem lg (G : Gl C p) (hpl : C.held = Option.none) {np pos ap cp : Pos} {o : Expr} {T : ET} (hn : sc.names.lookup (Str.ofString "sorted") = some .globalImplicit) (ho : HE C sc k o T)
  (hbase : ∀ env, attributeBase o (Str.ofString "keys") env (eval o env) = eval o env) (hline : (ap.endLine == cp.line) = true) :
  HE C sc k (.Call (.Name (Str.ofString "sorted") np) [.Call (.Attribute o (Str.ofString "keys") ap) [] [] cp] [] pos) (p6 T) := by
 refine ⟨?_⟩; intro env A s m σ Q P E en ao R F q hP
 have O := G.ok
 refine wpAny_Call_NameR (Calls.Name_function_global en.k (en.of hn) (Calls.loadGlobal_builtin (mg := C.mg) (mb := C.mb) (by rw [en.globals]; exact O.g.keeps R.base) (G.free _ (by decide)) (by rw [en.builtins]; exact O.b.keeps R.base) (G.blt i3 (by decide)) ?_) rfl)
 refine Calls.callWith_builtin (bp rfl) (bE rfl ?_)
 show wpAny _ A (spliced ((false, eval (.Call (.Attribute o (Str.ofString "keys") ap) [] [] cp) env) :: backTo pos (starEach [] env))) _ E s
 refine Calls.spliced_cons ?_
 refine wpAny_Call_method (T := "dict") (id := "dict.keys") (hbase env) rfl hline _root_.PySem.F.plainAttrs_dict _root_.PySem.F.slot_dict_keys _root_.PySem.F.type_dict_keys ?_
 refine ho.run env A s m σ _ _ E en ao R F q fun v w σ₁ s₁ hv R₁ S₁ q₁ => ?_
 obtain ⟨a, kvs, ep, rfl, hx, q₁⟩ := q₁
 cases hv
 obtain ⟨hz, kws, h1, h2⟩ := R₁.view _ _ hx
 refine ⟨h1.dictOf.typeIs, h1.dictOf.mapOf.noDict, ?_⟩
 show wpAny _ _ (callWith cp (.builtin "dict.keys") [.ref a] [] []) _ E s₁
 refine method_meetsIn _root_.PySem.F.slot_dict_keys _root_.PySem.F.entry_dict_keys rfl (PySem.evalArgs_none ⟨rfl, h1.dictOf.typeIs, _root_.PySem.F.args_dict_keys_1 _, _, kdl_meets_keys (PySem.strKind C.prog C.w) a (O.noMods (R₁.apart a (by rw [hx]; simp))), ⟨kws, h1.dictOf⟩, ?_⟩)
 refine Calls.spliced_nil ?_
 show wpAny _ A (PySem.call (.builtin "sorted") [.ref s₁.heap.objs.size]) P E _
 have hl := h2.length
 have R₂ : RelG C σ₁ { s₁ with heap := s₁.heap.push { cls := .type "dict_keys", data := .fields #[.ref a] } } := R₁.grow (tk := s₁.toks) aX
 refine dJ (ks := kvs.map (·.1)) ao R₂ (fun R' hR => bv (kdu_collect (kdl_keys (knd := PySem.strKind C.prog C.w) (kvs := kws) (ep := ep) (r := s₁.heap.objs.size) (d := a)) (by show A.handled = _; exact ao.none hpl)
  ⟨⟨_, Heap.get?_push_size _ rfl, rfl, rfl⟩, h1.push _⟩ (kdl_size (by omega)) fun h' tk acc hk hacc => ?_)) (by simpa using hz) q₁ fun v w σ' s' hv' R' S' q' => hP v w σ' s' hv' R' ((S₁.trans .push).trans S') q'
 intro hsz
 exact hR h' tk s₁.drawn acc.toList _ hk hsz (lv h2 (by rw [Array.length_toList]; exact hacc.1) fun j v e => hacc.2 j v (by rw [← Array.getElem?_toList]; exact e)) (List.Perm.refl _)
end
end Mine
end
noncomputable section
namespace Mine
open PySem PySem.W PyProof.Rows PySem.Calls
section
variable {C : Cx} {p : Program} {sc : Scope} {k : Nat}
noncomputable def ik : b7 := fun vs σ Q => onR vs fun a => ∃ kvs ep, σ a = some (.dict kvs ep) ∧ t0 kvs σ Q
theorem sB (O : C.Ok) : nz C k (fun ws => PySem.call (.type "dict") ws) ik := by
 intro A s σ vs ws Q P E ao R hv q hP
 replace q := onR.elim q
 obtain ⟨a, rfl, q⟩ := q
 ·obtain ⟨wa, rfl, h1⟩ := hv.inv1
  cases h1
  obtain ⟨kvs, ep, hx, q⟩ := q
  obtain ⟨hz, kws, h1, h2⟩ := R.view _ _ hx
  have hl := h2.length
  refine bv (kt_call_dict (knd := PySem.strKind C.prog C.w) (O.noMods (R.apart a (by rw [hx]; simp))) h1.dictOf (by rw [sizeLine_eq]; omega) fun h' hd' hs' => ?_)
  intro hsz
  obtain ⟨ep', hat⟩ := hd'.dictAt
  have hn := bV s.heap
  have hk : ∀ b o, s.heap.get? b = some o → h'.get? b = some o := fun b o e => hs'.extBut b o (Nat.ne_of_lt (Heap.lt_size e)) (Heap.get?_push_of_some _ e)
  exact hP _ _ (aZ σ s.heap.objs.size (.dict kvs ep')) _ (.ref _) (R.add (tk := s.toks) hk hn ⟨hz, kws, hat, h2.keep fun b o e _ => hk b o e⟩) (.add hk hsz (Nat.le_refl _)) (q _ ep' (R.freshNone hn))
theorem pi (G : Gl C p) {np pos : Pos} {es : List Expr} {L : LT} (hn : sc.names.lookup (Str.ofString "dict") = some .globalImplicit) (hl : HL C sc k es L) (hp : aO es = true) : HE C sc k (.Call (.Name (Str.ofString "dict") np) es [] pos) (az ik L) :=
 pn G.ok (sB G.ok) hn (G.free _ (by decide)) (G.blt uk (by decide)) rfl hl hp
noncomputable def fK : b7 := fun vs σ Q => onRS vs fun a x => ∃ kvs ep, σ a = some (.dict kvs ep) ∧ Q ((fG kvs x).getD .none) σ
theorem vy (O : C.Ok) : nz C k (fun ws => PySem.call (.builtin "dict.get") ws) fK := by
 intro A s σ vs ws Q P E ao R hv q hP
 replace q := onRS.elim q
 obtain ⟨a, x, rfl, q⟩ := q
 ·obtain ⟨wa, wb, rfl, h1, h2⟩ := hv.inv2
  cases h1; cases h2 with | str _ t =>
  obtain ⟨kvs, ep, hx, q⟩ := q
  obtain ⟨hz, kws, h1, h2⟩ := R.view _ _ hx
  refine call_meetsIn _root_.PySem.F.slot_dict_get h1.dictOf.typeIs _root_.PySem.F.entry_dict_get (_root_.PySem.F.args_dict_get_2 _ _) (meets_dict_get (PySem.strKind C.prog C.w) a (iS x t) (O.noMods (R.apart a (by rw [hx]; simp)))) ⟨_, h1.dictOf.mapOf, ?_⟩
  cases hg : fG kvs x with
  | none =>
   rw [hg] at q
   have e : valueAt kws x = Option.none := by
    have : (valueAt kws x).isSome = false := by rw [← h2.none (k := x), hg]; rfl
    cases e : valueAt kws x with
    | none => rfl
    | some _ => rw [e] at this; cases this
   show P ((valueAt kws x).getD .none) _
   rw [e]
   exact hP _ _ σ _ .none (R.tok _) Step.refl q
  | some v =>
   rw [hg] at q
   obtain ⟨w, e1, e2⟩ := h2.find hg
   show P ((valueAt kws x).getD .none) _
   rw [e1]
   exact hP _ _ σ _ e2 (R.tok _) Step.refl q
theorem fC (G : Gl C p) {o : Expr} {apos pos : Pos} {es : List Expr} {To : ET} {L : LT} (ho : HE C sc k o To) (hl : HL C sc k es L) (hp : aO es = true)
  (hbase : ∀ env, attributeBase o (Str.ofString "get") env (eval o env) = eval o env) (hline : (apos.endLine == pos.line) = true) (hfew : es.length < 30) : HE C sc k (.Call (.Attribute o (Str.ofString "get") apos) es [] pos) (br cy fK To L) :=
 fz lj F.plainAttrs_dict F.slot_dict_get F.type_dict_get (vy G.ok) ho hl hp hbase hline hfew
noncomputable def im : O2 := fun i o σ Q => isS i fun x => isR o fun a => ∃ kvs ep, σ a = some (.dict kvs ep) ∧ Q (.bool (!(fG kvs x).isSome)) σ
theorem iR (O : C.Ok) : gQ C k (compareOp .NotIn) im := by
 intro A s σ a b wa wb Q P E ao R va vb q hP
 replace q := isS.elim q
 obtain ⟨x, rfl, q⟩ := q
 replace q := isR.elim q
 obtain ⟨a, rfl, q⟩ := q
 ·cases va; cases vb
  obtain ⟨kvs, ep, hx, q⟩ := q
  obtain ⟨_, kws, h1, h2⟩ := R.view _ _ hx
  refine wpAny_notIn_of (knd := PySem.strKind C.prog C.w) (iS x _) (O.noMods (R.apart a (by rw [hx]; simp))) h1.dictOf.mapOf ?_
  rw [← h2.none]
  exact hP _ _ σ _ (.bool _) (R.tok _) Step.refl q
noncomputable def lh : V → Bool
 | .none => true
 | _ => false
noncomputable def onBN (b : V) (F : Bool → Prop) (G : Prop) : Prop := match b with | .none => G | .bool y => F y | _ => False
theorem onBN.elim {b : V} {F : Bool → Prop} {G : Prop} (h : onBN b F G) : (b = .none ∧ G) ∨ ∃ y, b = .bool y ∧ F y := by
 cases b <;> first | exact .inl ⟨rfl, h⟩ | exact .inr ⟨_, rfl, h⟩ | exact False.elim h
noncomputable def tW : O2 := fun a b σ Q => onBN b (fun y => isB a fun x => Q (.bool (x == y)) σ) (Q (.bool (lh a)) σ)
noncomputable def gj : O2 := fun a b σ Q => onBN b (fun y => isB a fun x => Q (.bool (x != y)) σ) (Q (.bool (!lh a)) σ)
theorem nX {h : Heap} {v : V} {w : Value} (hv : VRel C.aS h v w) : (w == Value.none) = lh v := by
 cases hv <;> rfl
theorem xi : gQ C k (compareOp .Is) tW := by
 intro A s σ a b wa wb Q P E ao R va vb q hP
 rcases onBN.elim q with ⟨rfl, q⟩ | ⟨y, rfl, q⟩
 ·cases vb
  exact is_none_gen (by rw [nX va]; exact hP _ _ σ s (.bool _) R Step.refl q)
 ·obtain ⟨x, rfl, q⟩ := isB.elim q
  cases va; cases vb
  exact is_bool (hP _ _ σ s (.bool _) R Step.refl q)
theorem nV : gQ C k (compareOp .IsNot) gj := by
 intro A s σ a b wa wb Q P E ao R va vb q hP
 rcases onBN.elim q with ⟨rfl, q⟩ | ⟨y, rfl, q⟩
 ·cases vb
  exact isnot_none_gen (by rw [nX va]; exact hP _ _ σ s (.bool _) R Step.refl q)
 ·obtain ⟨x, rfl, q⟩ := isB.elim q
  cases va; cases vb
  exact isnot_bool (hP _ _ σ s (.bool _) R Step.refl q)
noncomputable def gh : b7 := fun vs σ Q => onR vs fun a => ∃ xs, σ a = some (.list xs) ∧ Q .none (aZ σ a (.list []))
theorem sC : nz C k (fun ws => PySem.call (.builtin "list.clear") ws) gh := by
 intro A s σ vs ws Q P E ao R hv q hP
 replace q := onR.elim q
 obtain ⟨a, rfl, q⟩ := q
 ·obtain ⟨wa, rfl, h1⟩ := hv.inv1
  cases h1
  obtain ⟨xs, hx, q⟩ := q
  obtain ⟨hz, us, ⟨n, h3⟩, h4⟩ := R.view _ _ hx
  have e := h4.length
  refine call_meets _root_.PySem.F.slot_list_clear ⟨_, h3, rfl⟩ _root_.PySem.F.entry_list_clear (_root_.PySem.F.args_list_clear_1 _) (_root_.PySem.AutoSeq1.list_clear_list_0 a us.toArray n (by rw [List.size_toArray, ← e, sizeLine_eq]; exact hz)) ⟨h3, ?_⟩
  have hs' := Heap.SameBut.update s.heap a (Obj.mapSeq fun _ => (#[] : Array Value))
  have kt : a6 s.heap (s.heap.update a (Obj.mapSeq fun _ => #[])) := fun b o eb ht => hs'.extBut b o (by rintro rfl; rw [h3] at eb; cases eb; simp [i7] at ht) eb
  exact hP .none .none (aZ σ a (.list [])) _ .none (R.change (tk := s.toks) hx hs' ⟨by simp, [], ⟨_, get?_update_seq h3 (fun _ => #[])⟩, .nil⟩) (.change hx hs') q
theorem pk {o : Expr} {apos pos : Pos} {es : List Expr} {To : ET} {L : LT} (ho : HE C sc k o To) (hl : HL C sc k es L) (hp : aO es = true)
  (hbase : ∀ env, attributeBase o (Str.ofString "clear") env (eval o env) = eval o env) (hline : (apos.endLine == pos.line) = true) (hfew : es.length < 30) : HE C sc k (.Call (.Attribute o (Str.ofString "clear") apos) es [] pos) (br bN gh To L) :=
 fz li F.plainAttrs_list F.slot_list_clear F.type_list_clear sC ho hl hp hbase hline hfew
end
section
variable {m : bg} {σ : ai} {Q : V → ai → Prop} {R : Fl → bg → ai → Prop} {ns : List Int}
@[simp] theorem wD {T : ET} : p6 T m σ Q = T m σ fun v σ₁ => ∃ a kvs ep, v = .ref a ∧ σ₁ a = some (.dict kvs ep) ∧ dc ((srt (kvs.map (·.1))).map .str) σ₁ Q := rfl
theorem kz {a : Addr} {kvs : List (Str × V)} {ep : Nat} (h : σ a = some (.dict kvs ep)) (q : t0 kvs σ Q) : ik [.ref a] σ Q := ⟨kvs, ep, h, q⟩
theorem sV {a : Addr} {kvs : List (Str × V)} {ep : Nat} {x : Str} (h : σ a = some (.dict kvs ep)) (q : Q ((fG kvs x).getD .none) σ) : fK [.ref a, .str x] σ Q := ⟨kvs, ep, h, q⟩
theorem kG {a : Addr} {xs : List V} (h : σ a = some (.list xs)) (q : Q .none (aZ σ a (.list []))) : gh [.ref a] σ Q := ⟨xs, h, q⟩
theorem nL {a : Addr} {ks : List Str} (h : σ a = some (.list (ks.map .str))) (q : dc ((srt ks).map .str) σ Q) : ij [.ref a] σ Q := by
 show onO (σ a) _ _
 rw [h]
 exact ⟨ks, rfl, q⟩
@[simp] theorem yi {v : V} : tW v .none σ Q = Q (.bool (lh v)) σ := rfl
@[simp] theorem vD {v : V} : gj v .none σ Q = Q (.bool (!lh v)) σ := rfl
@[simp] theorem yV {a b : Bool} : tW (.bool a) (.bool b) σ Q = Q (.bool (a == b)) σ := rfl
@[simp] theorem xx {a b : Bool} : gj (.bool a) (.bool b) σ Q = Q (.bool (a != b)) σ := rfl
end
end Mine
end
noncomputable section
namespace Mine
open PySem
section
variable {C : Cx} {M : Model} {A : Around} {E : Value → Shared → Prop} {s : Shared} {env : Env} {σ : ai} {m : bg} {c : String} {n : Nat} {e : Addr} {ok : Option Value → Prop}
noncomputable def frs (env : Env) (outer : List Env) : List Addr := (env :: outer).filterMap (·.frame)
end
end Mine
end
noncomputable section
namespace Mine
open PySem
section
variable {C : Cx} {env : Env} {m : bg} {σ σ' : ai} {n : Nat} {S : List Addr}
end
abbrev XT := String → bg → ai → Prop
abbrev yL := bg → ai → (Fl → bg → ai → Prop) → XT → Prop
section
variable {C : Cx} {sc : Scope} {k : Nat}
end
end Mine
end
noncomputable section
namespace Mine
open PySem
section
variable {C : Cx} {sc : Scope} {k : Nat} {A A' : Around} {env : Env} {c : String} {e : Addr} {σ₀ σ : ai} {h₀ : Heap} {m : bg} {s : Shared} {ok : Option Value → Prop} {M : Model} {E : Value → Shared → Prop}
end
end Mine
end
noncomputable section
namespace Mine
open PySem PySem.W PyProof.Rows PySem.Calls
section
variable {C : Cx}
end
end Mine
end
noncomputable section
namespace Mine
open PySem
end Mine
end
noncomputable section
namespace Mine
open PySem PySem.W PyProof.Rows PySem.Calls
section
variable {C : Cx} {sc : Scope} {k : Nat}
end
end Mine
end
noncomputable section
set_option maxRecDepth 100000
namespace Mine
open PySem PySem.W PyProof.Rows PySem.Calls
section
variable {prog : Program} {w : World} {A : Around} {E : Value → Shared → Prop} {s : Shared} {Cl a : Addr} {bm : List Value} {o : Obj}
end
end Mine
end
noncomputable section
namespace Mine
open PySem PySem.W PyProof.Rows PySem.Calls
section
variable {C : Cx} {e : Addr} {o : Obj} {σ : ai} {s : Shared} {env : Env} {m : bg} {p : Program} {vs : Array Value}
end
end Mine
end
noncomputable section
set_option maxRecDepth 100000
namespace Mine
open PySem PySem.W PyProof.Rows PySem.Calls
section
variable {prog : Program} {w : World} {A : Around} {E : Value → Shared → Prop} {s : Shared} {Cl H a : Addr} {bm bmH : List Value} {o : Obj} {M : Model}
end
noncomputable def cut (m : bg) (x : String) : bg := fun y => if y = x then Option.none else m y
section
variable {C : Cx} {sc : Scope} {k : Nat}
end
end Mine
end
noncomputable section
set_option maxRecDepth 100000
namespace Mine
open PySem PySem.W PyProof.Rows PySem.Calls
section
variable {prog : Program} {w : World} {A : Around} {E : Value → Shared → Prop} {s : Shared} {Cl H a : Addr} {bm bmH : List Value} {o : Obj}
end
section
variable {C : Cx} {sc : Scope} {k : Nat} {p : Program}
end
end Mine
end
noncomputable section
namespace Mine
open PySem PySem.W PyProof.Rows PySem.Calls
section
variable {C : Cx} {sc : Scope} {k : Nat}
end
end Mine
end
noncomputable section
namespace Mine
open PySem PySem.W PyProof.Rows PySem.Calls
section
variable {C : Cx} {sc : Scope} {k : Nat} {p : Program} {cs ks : List String} {ad : String → Addr}
end
section
variable {m : bg} {σ : ai} {Q : Fl → bg → ai → Prop} {X : XT} {R : V → ai → Prop} {Y : String → ai → Prop}
noncomputable def uD (U : yL) (Q : Fl → bg → ai → Prop) (X : XT) : Fl → bg → ai → Prop := fun f m σ => match f with
 | .next => U m σ Q X
 | f => Q f m σ
@[simp] theorem uP (U : yL) : uD U Q X .next m σ = U m σ Q X := rfl
@[simp] theorem wg (U : yL) (v : V) : uD U Q X (.ret v) m σ = Q (.ret v) m σ := rfl
end
end Mine
end
noncomputable section
set_option maxRecDepth 100000
namespace Mine
open PySem PySem.W PyProof.Rows PySem.Calls
structure Bk (C : Cx) (bk N : Addr) (mN : Str → Option Value) : Prop where
 glob : C.mg (Str.ofString "Book") = some (.ref bk)
 cls : ClsAt C.hB bk N mN
 look : ∀ n ∈ (["__getattribute__", "__getattr__", "__setattr__", "trees", "made_of"] : List String), mN (Str.ofString n) = none
noncomputable def MtAt (C : Cx) (mN : Str → Option Value) (j : Nat) (f : String) (spec : b7) : Prop :=
 ∃ a o fd, mN (Str.ofString f) = some (.ref a) ∧ C.hB.get? a = some o ∧ o.cls = .type "function" ∧ o.data = .func fd ∧ FnSound C j a spec
section
variable {C : Cx} {bk N : Addr} {mN : Str → Option Value} {sc : Scope} {k : Nat}
theorem fU {h : Heap} {Cl N : Addr} {mN : Str → Option Value} {P : Prop} (X : ClsAt h Cl N mN)
  (k : ∀ (nm q : Str) (bs : List Value) (sn : List Str) (sub : List Value) (col : Option Bool) (dd : Option Addr) (k0 k1 k2 k3 k5 : Option Value), h.get? Cl = some (excClassObj nm q Cl N bs [.type "object"] true sn sub false col dd k0 k1 k2 k3 k5 "object.__new__") → P) : P := by
 obtain ⟨nm, q, bs, sn, sub, col, dd, k0, k1, k2, k3, k5, hC⟩ := X.obj
 exact k nm q bs sn sub col dd k0 k1 k2 k3 k5 hC
theorem iV {σ : ai} {s : Shared} {a dx : Addr} {fs : List (String × V)} (B : Bk C bk N mN) (R : RelG C σ s) (ha : σ a = some (.inst dx)) (hd : σ dx = some (.ns fs)) :
  fs.length ≤ 1000 ∧ ∃ mA, s.heap.Inst a bk mA ∧ s.heap.get? a = some { cls := .ref bk, dict := some dx, data := .plain } ∧ (∀ x v, fs.lookup x = some v → ∃ w, mA (Str.ofString x) = some w ∧ VRel C.aS s.heap v w) ∧ ∀ y : Str, (∀ q ∈ fs, y ≠ Str.ofString q.1) → mA y = none := by
 obtain ⟨cl, h1, h2, h3⟩ := R.view _ _ ha
 rw [B.glob] at h1; cases h1
 obtain ⟨hz, mA, h4, h5, h6⟩ := R.view _ _ hd
 exact ⟨hz, mA, ⟨_, h3, rfl, fun c => by simp, .inr ⟨dx, rfl, h2, h4⟩⟩, h3, h5, h6⟩
theorem pO {fs : List (String × V)} {x : String} (h : fs.lookup x = none) : ∀ q ∈ fs, Str.ofString x ≠ Str.ofString q.1 := by
 induction fs with
 | nil => intro q hq; cases hq
 | cons p r ih =>
  intro q hq e
  rw [List.lookup_cons] at h
  split at h
  ·cases h
  ·rename_i hb
   rcases List.mem_cons.mp hq with rfl | hq
   ·have := ci e
    rw [this] at hb
    simp at hb
   ·exact ih h q hq e
noncomputable def a9 (x : String) : Prop := typeLookup (.type "object") (Str.ofString x) = pure none
noncomputable def d6 (x : String) (T : ET) : ET := fun m σ Q => T m σ fun v σ' => ∃ a dx fs t, v = .ref a ∧ σ' a = some (.inst dx) ∧ σ' dx = some (.ns fs) ∧ fs.lookup x = some (.ref t) ∧ Q (.ref t) σ'
theorem cx (B : Bk C bk N mN) {x : String} {o : Expr} {pos : Pos} {T : ET} (hx : a9 x) (hn : mN (Str.ofString x) = Option.none) (ho : HE C sc k o T)
  (hbase : ∀ env, attributeBase o (Str.ofString x) env (eval o env) = eval o env) : HE C sc k (.Attribute o (Str.ofString x) pos) (d6 x T) := by
 refine ⟨?_⟩; intro env A s m σ Q P E en ao R F q hP
 rw [arm_eval_Attribute, hbase]
 refine wpAny_bind (ho.run env A s m σ _ _ E en ao R F q fun v w σ₁ s₁ hv R₁ S₁ q₁ => ?_)
 obtain ⟨a, dx, fs, t, rfl, ha, hd, hl, q₁⟩ := q₁
 cases hv
 obtain ⟨_, mA, hI, _, hm, _⟩ := iV B R₁ ha hd
 obtain ⟨w, hw, hr⟩ := hm _ _ hl
 cases hr
 refine wpAny_bind (wpAny_standAt (wpAny_bind (wpAny_holding ?_)))
 have hcl := B.cls.keeps R₁.base
 obtain ⟨hh, g, d, tk, os⟩ := s₁
 refine fU hcl fun nm q bs sn sub col dd k0 k1 k2 k3 k5 hC => ?_
 refine load_attr hC hcl.ns (B.look "__getattribute__" (by decide)) hn hx hI hw rfl ?_
 exact wpAny_bind (wpAny_letTemporaryGo (wpAny_pure (hP _ _ σ₁ _ (.ref _) (R₁.tok _) S₁ q₁)))
theorem RelG.turn {σ : ai} {s : Shared} {h' : Heap} {tk : Nat} {a : Addr} {o o' : AObj} (R : RelG C σ s) (ha : σ a = some o) (hk : ∀ b ob, b ≠ a → s.heap.get? b = some ob → h'.get? b = some ob) (ho : ObjRel C h' a o') :
  RelG C (aZ σ a o') { s with heap := h', toks := tk } := by
 obtain ⟨ob, h1, h2, _⟩ := (R.view a o ha).shape
 have kt : a6 s.heap h' := fun b o eb ht => hk b o (by rintro rfl; rw [h1] at eb; cases eb; exact h2 ht) eb
 refine ⟨let ⟨_, _, d, e⟩ := R.rest; ⟨h', tk, d, by rw [e]⟩, fun b o e => hk b o (by rintro rfl; rw [R.apart b (by rw [ha]; simp)] at e; cases e) (R.base b o e), fun b ob e => ?_, fun b hb => ?_⟩
 ·by_cases q : b = a
  ·subst q; rw [au] at e; cases e; exact ho
  ·rw [aC q] at e; exact (R.view b ob e).keep kt fun o e => hk b o q e
 ·by_cases q : b = a
  ·subst q; exact R.apart b (by rw [ha]; simp)
  ·rw [aC q] at hb; exact R.apart b hb
theorem Step.turn {own : Addr → Prop} {σ : ai} {h h' : Heap} {a : Addr} {o o' : AObj} (ha : σ a = some o) (hk : ∀ b ob, b ≠ a → h.get? b = some ob → h'.get? b = some ob) (hz : h.objs.size ≤ h'.objs.size) : Step own σ (aZ σ a o') h h' :=
 .of (fun b o e n _ => hk b o (by rintro rfl; rw [ha] at n; cases n) e) hz fun b n m => by
  by_cases q : b = a
  ·subst q; rw [ha] at n; cases n
  ·rw [aC q] at m; exact absurd n m
theorem qW {fs : List (String × V)} {mA : Str → Option Value} (h : ∀ y : Str, (∀ q ∈ fs, y ≠ Str.ofString q.1) → mA y = none) : Within mA (fs.map fun q => Str.ofString q.1) := by
 intro n e
 apply Classical.byContradiction
 intro hn
 exact e (h n fun q hq z => hn (List.mem_map.mpr ⟨q, hq, z.symm⟩))
noncomputable def qt (x : String) (T To : ET) : ST := fun m σ Q => T m σ fun v σ₁ => To m σ₁ fun o σ₂ => ∃ a dx fs, o = .ref a ∧ σ₂ a = some (.inst dx) ∧ σ₂ dx = some (.ns fs) ∧ fs.length < 1000 ∧ Q .next m (aZ σ₂ dx (.ns ((x, v) :: fs)))
theorem pd (B : Bk C bk N mN) {x : String} {o value : Expr} {pos' pos : Pos} {T To : ET} (hx : a9 x) (hn : mN (Str.ofString x) = Option.none) (he : HE C sc k value T) (ho : HE C sc k o To)
  (hs : ∀ env, EnvOk env sc → swapsWith value (some (.Attribute o (Str.ofString x) pos')) pos.line env = pure false) : HS1 C sc k (.Assign [.Attribute o (Str.ofString x) pos'] value pos) (qt x T To) := by
 refine ⟨?_⟩; intro env A s m σ Q P E en ao R F q hP
 refine plainObj_wpAny_Assign_Attribute (he.run env A s m σ _ _ E en ao R F q fun v w σ₁ s₁ hv R₁ S₁ q₁ => ho.run env A s₁ m σ₁ _ _ E en ao R₁ (F.step R S₁) q₁ fun u wo σ₂ s₂ hvo R₂ S₂ q₂ => ?_) (hs env en)
 obtain ⟨a, dx, fs, rfl, ha, hd, hz, q₂⟩ := q₂
 cases hvo
 obtain ⟨_, mA, hI, hoa, hm, hno⟩ := iV B R₂ ha hd
 have hv₂ := hv.keep (S₂.tupsN R₁)
 have hcl := B.cls.keeps R₂.base
 have F₂ := F.step R (S₁.trans S₂)
 have hxC : a ≠ bk := fU B.cls fun nm q bs sn sub col dd k0 k1 k2 k3 k5 hC₀ => by rintro rfl; rw [R₂.apart a (by rw [ha]; simp)] at hC₀; cases hC₀
 refine bv ?_
 obtain ⟨hh, g, d, tk, os⟩ := s₂
 refine fU hcl fun nm q bs sn sub col dd k0 k1 k2 k3 k5 hC => ?_
 refine store_attr PySem.F.store_object hC hcl.ns (B.look "__setattr__" (by decide)) hn hx hxC hI (fun h' tk' I' hk hsame hsz => ?_) (qW hno) (by rw [List.length_map, sizeLine_eq]; omega)
 obtain ⟨o₁, e₁, c₁, dt₁, sl₁, dk₁⟩ := hsame _ hoa
 have ho₁ : o₁ = { cls := .ref bk, dict := some dx, data := .plain } := by
  obtain ⟨oc, od, odt, osl⟩ := o₁
  have := dk₁ dx rfl
  dsimp only at c₁ dt₁ sl₁ this
  subst c₁ dt₁ sl₁ this
  rfl
 subst ho₁
 have hk' : ∀ b ob, b ≠ dx → hh.get? b = some ob → h'.get? b = some ob := fun b ob hb e => by
  by_cases hba : b = a
  ·subst hba
   have : hh.get? b = _ := hoa
   rw [this] at e; cases e; exact e₁
  ·exact hk b ob hba (fun o₀ d' e₀ ed => by
    have h9 : hh.get? a = _ := hoa
    rw [h9] at e₀; cases e₀; cases ed; exact hb) e
 obtain ⟨ob, hob, hnT, _⟩ := (R₂.view dx _ hd).shape
 have kt : a6 hh h' := fun b o eb ht => hk' b o (by
  rintro rfl
  have h9 : hh.get? b = _ := hob
  rw [h9] at eb; cases eb; exact hnT ht) eb
 obtain ⟨o', e', _, _, hd'⟩ := I'
 rw [e₁] at e'; cases e'
 rcases hd' with ⟨hn0, _⟩ | ⟨d', hd', _, hns'⟩
 ·cases hn0
 cases hd'
 have hobj : ObjRel C h' dx (.ns ((x, v) :: fs)) := by
  refine ⟨by simp; omega, _, hns', fun y u e => ?_, fun y hy => ?_⟩
  ·rw [List.lookup_cons] at e
   split at e
   ·rename_i hb
    cases e
    have : y = x := by simpa using hb
    subst this
    exact ⟨w, by simp, hv₂.keep kt⟩
   ·rename_i hb
    have hyx : y ≠ x := by simpa using hb
    obtain ⟨w', h8, h9⟩ := hm y u e
    exact ⟨w', by simp [show ¬ Str.ofString y = Str.ofString x from fun z => hyx (ci z), h8], h9.keep kt⟩
  ·simp [hy (x, v) (.head _), hno y fun q hq => hy q (.tail _ hq)]
 have R₃ := R₂.turn (tk := tk') hd hk' hobj
 have S₃ : Step no σ₂ (aZ σ₂ dx (.ns ((x, v) :: fs))) hh h' := .turn hd hk' hsz
 exact hP .next .next m _ _ .next R₃ (F₂.step R₂ S₃) ((S₁.trans S₂).trans S₃).own q₂
noncomputable def bj (f : String) (spec : b7) (T : ET) (L : LT) : ET := fun m σ Q => T m σ fun v σ₁ => (∃ a dx fs, v = .ref a ∧ σ₁ a = some (.inst dx) ∧ σ₁ dx = some (.ns fs) ∧ fs.lookup f = none) ∧ L m σ₁ fun vs σ₂ => spec (v :: vs) σ₂ Q
theorem tg {es : List Expr} {env : Env} {pos : Pos} (hp : aO es = true) (hfew : es.length < 30) : methodCallForm (es.length + ([] : List Keyword).length) (backTo pos (starEach es env)) (backToKw pos (keywordEach [] env)) = true := by
 have hall : (backTo pos (starEach es env)).all (fun x => !x.1) = true := by
  have := bp (env := env) (pos := pos) hp
  rw [List.any_eq_false] at this
  rw [List.all_eq_true]
  intro x hx
  have := this x hx
  simp at this
  simp [this]
 unfold methodCallForm
 rw [hall]
 simp [backToKw, keywordEach]; omega
theorem sF {σ₁ : ai} {s₁ : Shared} {A : Around} {E : Value → Shared → Prop} {pl : Sem Bool} {f : String} {a dx fa : Addr} {fs : List (String × V)} {of : Obj} {y : Option Value} (B : Bk C bk N mN) (R₁ : RelG C σ₁ s₁) (hmf : mN (Str.ofString f) = some (.ref fa)) (hof : C.hB.get? fa = some of) (hfc : of.cls = .type "function") (hB : typeLookup (.type "object") (Str.ofString f) = pure y)
  (ha : σ₁ a = some (.inst dx)) (hd : σ₁ dx = some (.ns fs)) (hl0 : fs.lookup f = none) {Q : Value × List Value → Shared → Prop} (q : Q (.ref fa, [.ref a]) s₁) : wpAny (model C.prog C.w) A (getMethod (.ref a) (Str.ofString f) pl) Q E s₁ := by
 obtain ⟨_, mA, hI, _, _, hno⟩ := iV B R₁ ha hd
 have hcl := B.cls.keeps R₁.base
 have hfh := R₁.base _ _ hof
 obtain ⟨hh, g, d, tk, os⟩ := s₁
 refine fU hcl fun nm q' bs sn sub col dd k0 k1 k2 k3 k5 hC => ?_
 exact method_of hC hcl.ns (B.look "__getattribute__" (by decide)) (B.look "__getattr__" (by decide)) hmf hfh hfc hB hI (hno _ (pO hl0)) q
theorem aY (O : C.Ok) (B : Bk C bk N mN) {f : String} {o : Expr} {apos pos : Pos} {es : List Expr} {spec : b7} {To : ET} {L : LT} {j : Nat} {y : Option Value} (hf : MtAt C mN j f spec) (hj : j < k) (hB : typeLookup (.type "object") (Str.ofString f) = pure y) (ho : HE C sc k o To) (hl : HL C sc k es L) (hp : aO es = true)
  (hbase : ∀ env, attributeBase o (Str.ofString f) env (eval o env) = eval o env) (hline : (apos.endLine == pos.line) = true) (hfew : es.length < 30) : HE C sc k (.Call (.Attribute o (Str.ofString f) apos) es [] pos) (bj f spec To L) := by
 obtain ⟨fa, of, fd, hmf, hof, hfc, hfd, hS⟩ := hf
 refine ⟨?_⟩; intro env A s m σ Q P E en ao R F q hP
 rw [arm_eval_Call, hbase]
 refine wpAny_bind (ho.run env A s m σ _ _ E en ao R F q fun v w σ₁ s₁ hv R₁ S₁ q₁ => ?_)
 obtain ⟨⟨a, dx, fs, rfl, ha, hd, hl0⟩, q₁⟩ := q₁
 have hv' := hv
 cases hv'
 refine wpAny_bind (wpAny_standAt ?_)
 have hpos : methodCallPos true o env apos pos = pure pos := by unfold methodCallPos; simp [hline]
 unfold methodCall
 rw [tg hp hfew]
 refine wpAny_bind (wpAny_holding ?_)
 show wpAny _ A (getMethod (.ref a) (Str.ofString f) _) _ E s₁
 refine sF B R₁ hmf hof hfc hB ha hd hl0 ?_
 refine wpAny_bind (wpAny_of_eq hpos ?_)
 show wpAny _ A (callWith pos (.ref fa) [.ref a] (backTo pos (starEach es env)) []) P E s₁
 refine Calls.callWith_function (o := of) (fd := fd) (bE hp (hl.run env A s₁ m σ₁ pos _ _ E en ao R₁ (F.step R S₁) q₁ fun vs ws σ₂ s₂ hvs R₂ S₂ q₂ => ⟨⟨R₂.base _ _ hof, hfd⟩, ?_⟩))
 exact wpAny_call (hS A s₂ σ₂ (.ref a :: vs) (.ref a :: ws) Q P E (ao.le hj) R₂ (.cons (.ref a) hvs) q₂ fun v w σ' s' hv' R' S' q' => hP v w σ' s' hv' R' ((S₁.trans S₂).trans S') q')
end
end Mine
end
noncomputable section
set_option maxRecDepth 100000
namespace Mine
open PySem PySem.W PyProof.Rows PySem.Calls
abbrev cN (h : Heap) (Cl : Addr) : Heap := (h.push { cls := .type "dict", data := .dict #[] }).push { cls := .ref Cl, dict := some h.objs.size, data := .plain }
section
variable {prog : Program} {w : World} {A : Around} {E : Value → Shared → Prop} {h : Heap} {g : Array GenState} {d : Drawn} {t : Nat} {os : OsState}
variable {nm q : Str} {Cl N : Addr} {bs : List Value} {sn : List Str} {sub : List Value} {col : Option Bool} {dd : Option Addr} {k0 k1 k2 k3 k5 : Option Value}
theorem rp {mN : Str → Option Value} {fI : Addr} {oI : Obj} {Q : Fin → Shared → Prop}
  (hC : h.get? Cl = some (excClassObj nm q Cl N bs [.type "object"] true sn sub false col dd k0 k1 k2 k3 k5 "object.__new__")) (hn : h.Ns N mN) (hi : mN "__init__" = some (.ref fI))
  (hfI : h.get? fI = some oI) (hfc : oI.cls = .type "function")
  (hq : wpAny (model prog w) A (call (.ref fI) [.ref (h.objs.size + 1)]) (fun r s' => r = .none ∧ Q (.done (.ret (.ref (h.objs.size + 1)))) s') E ⟨cN h Cl, g, d, t, os⟩) :
  wpAny (model prog w) A (Builtin.«type.__call__» ⟨[.ref Cl], []⟩) Q E ⟨h, g, d, t, os⟩ := by
 have hlk : typeLookup (.type "object") "__init__" = pure (some (.builtin "object.__init__")) := by rw [typeLookup_type, builtinLookup_eq_fast]; kernel_rfl
 have O := PySem.F.objNew
 repeat (first | with_reducible refine wpAny_loadPart_at hC ?_ | with_reducible refine wpAny_madeBy_exc hC ?_ | wp_step)
 refine codeAny_call_builtin_code (Code.quiet_builtin _ O.quiet) (wpAny_check_obj_new O hC (codeAny_obj_new O hC hn hi ?_))
 show wpAny _ _ _ _ _ _
 have old : ∀ b o, h.get? b = some o → (cN h Cl).get? b = some o := fun b o e => Heap.get?_push_of_some _ (Heap.get?_push_of_some _ e)
 have hx : (cN h Cl).get? (h.objs.size + 1) = some { cls := .ref Cl, dict := some h.objs.size, data := .plain } := by heap_get
 have hcC : (Value.ref Cl :: [Value.type "object"]).contains (.ref Cl) = true := by simp
 unfold isInstance
 repeat (first | with_reducible refine wpAny_loadPart_at hx ?_ | (with_reducible refine wpAny_isSubtype_exc (old _ _ hC) ?_; rw [hcC]) | wp_step)
 show wpAny _ _ (typeLookup (.ref Cl) _) _ _ _
 refine wpAny_typeLookup_exc (old _ _ hC) (hn.keeps old) PySem.F.mro_object hlk ?_
 rw [hi]
 refine wpAny_holding (wpAny_bind ?_)
 unfold bindSpecial
 refine wpAny_bind (wpAny_typeOf (T := "function") ⟨_, old _ _ hfI, hfc⟩ ?_)
 rw [if_pos (by decide)]
 refine wpAny_pure (wpAny_bind (wpAny_mono hq (fun r s' hr => ?_) fun _ _ x => x))
 obtain ⟨rfl, hQ⟩ := hr
 wp_walk
 exact hQ
theorem rq {mN : Str → Option Value} {fI : Addr} {oI : Obj} {Q : Value → Shared → Prop}
  (hC : h.get? Cl = some (excClassObj nm q Cl N bs [.type "object"] true sn sub false col dd k0 k1 k2 k3 k5 "object.__new__")) (hn : h.Ns N mN) (hi : mN "__init__" = some (.ref fI))
  (hfI : h.get? fI = some oI) (hfc : oI.cls = .type "function")
  (hq : wpAny (model prog w) (A.under (.builtin "type.__call__" ⟨[.ref Cl], []⟩)) (call (.ref fI) [.ref (h.objs.size + 1)]) (fun r s' => r = .none ∧ Q (.ref (h.objs.size + 1)) s') E ⟨cN h Cl, g, d, t, os⟩) :
  wpAny (model prog w) A (call (.ref Cl) []) Q E ⟨h, g, d, t, os⟩ := by
 have f1 := tc_lookup
 have f2 := tc_bind (.ref Cl)
 have hT : (⟨h, g, d, t, os⟩ : Shared).TypeIs (.ref Cl) "type" := ⟨_, hC, rfl⟩
 refine wpAny_call (codeAny_of_tree ?_)
 show wpAny _ _ (callAny (.ref Cl) _) _ _ _
 repeat (any_goals (first | assumption | with_reducible refine wpAny_loadPart_at hC ?_ | wp_step))
 refine ⟨rfl, ?_⟩
 exact codeAny_call_builtin_at (Code.quiet_builtin _ (by decide +kernel)) entry_typeCall (wpAny_check_type_call_sub hC (rp hC hn hi hfI hfc hq))
end
section
variable {C : Cx} {bk N : Addr} {mN : Str → Option Value} {sc : Scope} {k : Nat}
noncomputable def vN (spec : b7) : ET := fun _ σ Q => ∀ a dx, σ a = none → σ dx = none → dx ≠ a → spec [.ref a] (aZ (aZ σ dx (.ns [])) a (.inst dx)) fun r σ' => r = .none ∧ Q (.ref a) σ'
theorem we (O : C.Ok) (B : Bk C bk N mN) {spec : b7} {j : Nat} {np pos : Pos} (hf : MtAt C mN j "__init__" spec) (hj : j + 1 < k) (hn : sc.names.lookup (Str.ofString "Book") = some .globalImplicit) :
  HE C sc k (.Call (.Name (Str.ofString "Book") np) [] [] pos) (vN spec) := by
 obtain ⟨fa, of, fd, hmf, hof, hfc, hfd, hS⟩ := hf
 refine ⟨?_⟩; intro env A s m σ Q P E en ao R F q hP
 refine wpAny_Call_NameR (Calls.Name_function_global en.k (en.of hn) (Calls.loadGlobal_global (mg := C.mg) (by rw [en.globals]; exact O.g.keeps R.base) B.glob ?_) (by decide))
 refine callWith_cls0 B.cls R.base ?_
 have hcl := B.cls.keeps R.base
 have hfh := R.base _ _ hof
 have n0 := bV s.heap
 have n1 : s.heap.get? (s.heap.objs.size + 1) = Option.none := aI (Nat.le_succ _)
 have hq := q (s.heap.objs.size + 1) s.heap.objs.size (R.freshNone n1) (R.freshNone n0) (Nat.ne_of_lt (Nat.lt_succ_self _))
 have old : ∀ b o, s.heap.get? b = some o → (cN s.heap bk).get? b = some o := fun b o e => Heap.get?_push_of_some _ (Heap.get?_push_of_some _ e)
 have gd : (s.heap.push { cls := .type "dict", data := .dict #[] }).get? s.heap.objs.size = some { cls := .type "dict", data := .dict #[] } := Heap.get?_push_size _ rfl
 have R₁ : RelG C (aZ σ s.heap.objs.size (.ns [])) { s with heap := s.heap.push { cls := .type "dict", data := .dict #[] } } :=
  R.add (tk := s.toks) aX n0 ⟨by simp, fun _ => Option.none, Heap.Ns1.of_empty ⟨_, #[], _, gd, rfl, fun e he => absurd he (by simp), fun _ => rfl⟩, fun x v e => by simp at e, fun _ _ => rfl⟩
 have gx : (cN s.heap bk).get? (s.heap.objs.size + 1) = some { cls := .ref bk, dict := some s.heap.objs.size, data := .plain } := by
  have := Heap.get?_push_size (s.heap.push { cls := .type "dict", data := .dict #[] }) (o := { cls := .ref bk, dict := some s.heap.objs.size, data := .plain }) rfl
  rw [Heap.size_push] at this; exact this
 have R₂ : RelG C (aZ (aZ σ s.heap.objs.size (.ns [])) (s.heap.objs.size + 1) (.inst s.heap.objs.size)) { s with heap := cN s.heap bk } :=
  R₁.add (tk := s.toks) aX (aI (by rw [Heap.size_push]; exact Nat.le_refl _)) ⟨bk, B.glob, Nat.ne_of_lt (Nat.lt_succ_self _), gx⟩
 have S₂ : Step no σ (aZ (aZ σ s.heap.objs.size (.ns [])) (s.heap.objs.size + 1) (.inst s.heap.objs.size)) s.heap (cN s.heap bk) :=
  (Step.addPush (o := .ns [])).trans (.add (fun _ _ e => Heap.get?_push_of_some _ e) (by unfold cN; simp only [Heap.size_push]; omega) (by rw [Heap.size_push]; exact Nat.le_refl _))
 obtain ⟨hh, g, d, tk, os⟩ := s
 refine fU hcl fun nm q' bs sn sub col dd k0 k1 k2 k3 k5 hC => ?_
 refine rq hC hcl.ns hmf hfh hfc ?_
 refine wpAny_call (hS _ _ _ [.ref (hh.objs.size + 1)] [.ref (hh.objs.size + 1)] _ (fun r s' => r = .none ∧ P (.ref (hh.objs.size + 1)) s') E ?_ R₂ (.cons (.ref _) .nil) hq fun v w σ' s' hv R' S' q' => ?_)
 ·refine ⟨?_, ?_, ?_⟩
  ·exact ao.handled
  ·have := ao.depth
   show A.depth + 1 + 3 * (j + 1) + 3 < recursionLimit
   omega
  ·have := ao.units
   have e : (A.under (.builtin "type.__call__" ⟨[.ref bk], []⟩)).units ≤ A.units + 5 := by
    simp only [Around.under]
    show A.units + _ ≤ A.units + 5
    exact Nat.add_le_add_left (show (Code.builtin "type.__call__" { pos := [Value.ref bk] }).cUnits ≤ 5 from Nat.le_of_ble_eq_true rfl) _
   omega
 ·obtain ⟨rfl, q'⟩ := q'
  cases hv
  exact ⟨rfl, hP _ _ σ' s' (.ref _) R' (S₂.trans S') q'⟩
end
end Mine
end
noncomputable section
namespace Mine
open PySem PySem.W PyProof.Rows PySem.Calls
noncomputable def cj (kvs : List (Int × V)) (k : Int) (v : V) : List (Int × V) :=
 if kvs.any (fun kv => kv.1 = k) then kvs.map (fun kv => if kv.1 = k then (kv.1, v) else kv) else kvs ++ [(k, v)]
noncomputable def b9 (kvs : List (Int × V)) (k : Int) : Option V := (kvs.find? fun kv => kv.1 = k).map (·.2)
section
variable {aS : Addr} {h : Heap}
theorem PRel.anyI {a : List (Int × V)} {b : List (Int × Value)} (k : Int) (x : PRel aS h a b) : (a.any fun kv => kv.1 = k) = (b.any fun kv => kv.1 = k) :=
 x.ind (P := fun a b => (a.any fun kv => kv.1 = k) = (b.any fun kv => kv.1 = k)) rfl fun _ _ _ _ _ _ _ e => congrArg _ e
theorem PRel.appendI {a a' : List (Int × V)} {b b' : List (Int × Value)} (x : PRel aS h a b) (y : PRel aS h a' b') : PRel aS h (a ++ a') (b ++ b') :=
 x.ind (P := fun a b => PRel aS h (a ++ a') (b ++ b')) y fun _ _ _ _ _ v _ e => by
  rw [List.cons_append, List.cons_append]; exact And.intro rfl (And.intro v e)
theorem PRel.mapSetI {k : Int} {v : V} {w : Value} (hv : VRel aS h v w) {a : List (Int × V)} {b : List (Int × Value)} (x : PRel aS h a b) : PRel aS h (a.map fun kv => if kv.1 = k then (kv.1, v) else kv) (b.map fun kv => if kv.1 = k then (kv.1, w) else kv) := by
 refine x.ind (P := fun a b => PRel aS h (a.map fun kv => if kv.1 = k then (kv.1, v) else kv) (b.map fun kv => if kv.1 = k then (kv.1, w) else kv)) trivial fun j u z r r' q _ e => ?_
 rw [List.map_cons, List.map_cons]
 by_cases c : j = k
 ·rw [if_pos c, if_pos c]; exact And.intro rfl (And.intro hv e)
 ·rw [if_neg c, if_neg c]; exact And.intro rfl (And.intro q e)
theorem PRel.storedI {k : Int} {v : V} {w : Value} {a : List (Int × V)} {b : List (Int × Value)} (x : PRel aS h a b) (hv : VRel aS h v w) : PRel aS h (cj a k v) (PySem.stored b k w) := by
 unfold cj PySem.stored
 rw [x.anyI k]
 split
 ·exact x.mapSetI hv
 ·exact x.appendI ⟨rfl, hv, trivial⟩
theorem PRel.findI {k : Int} {a : List (Int × V)} {b : List (Int × Value)} (x : PRel aS h a b) {v : V} : b9 a k = some v → ∃ w, valueAt b k = some w ∧ VRel aS h v w := by
 refine x.ind (P := fun a b => b9 a k = some v → ∃ w, valueAt b k = some w ∧ VRel aS h v w) (fun e => nomatch e) fun j u z r r' q _ e hv => ?_
 unfold b9 at hv
 unfold valueAt
 by_cases c : j = k
 ·rw [List.find?_cons_of_pos (by simpa using c)] at hv
  rw [List.find?_cons_of_pos (by simpa using c)]
  cases hv; exact ⟨z, rfl, q⟩
 ·rw [List.find?_cons_of_neg (by simpa using c)] at hv
  rw [List.find?_cons_of_neg (by simpa using c)]
  exact e hv
theorem PRel.noneI {k : Int} {a : List (Int × V)} {b : List (Int × Value)} (x : PRel aS h a b) : (b9 a k).isSome = (valueAt b k).isSome := by
 refine x.ind (P := fun a b => (b9 a k).isSome = (valueAt b k).isSome) rfl fun j u z r r' q _ e => ?_
 unfold b9 valueAt
 by_cases c : j = k
 ·rw [List.find?_cons_of_pos (by simpa using c), List.find?_cons_of_pos (by simpa using c)]; rfl
 ·rw [List.find?_cons_of_neg (by simpa using c), List.find?_cons_of_neg (by simpa using c)]
  exact e
end
section
variable {C : Cx} {p : Program} {sc : Scope} {k : Nat}
theorem ir (x : Int) (t : Tok) : (intKind C.prog C.w).is x (.int x t) = true := intKind_is _ _ _ _
theorem p8 {h : Heap} {a : Addr} {kws : List (Int × Value)} {ep : Nat} (x : h.DictAt (intKind C.prog C.w) a kws ep) : ∀ o, h.get? a = some o → ¬ i7 o := by
 intro o ho
 obtain ⟨o', es, ho', hc, hd, _⟩ := x
 rw [ho] at ho'; cases ho'
 simp [i7, hd]
theorem jf (kvs : List (Int × V)) (x : Int) (v : V) : (cj kvs x v).length ≤ kvs.length + 1 := by
 unfold cj; split <;> simp
noncomputable def tN (o i v : V) (σ : ai) (Q : ai → Prop) : Prop := isR o fun a => isI i fun k => ∃ kvs ep, σ a = some (.idict kvs ep) ∧ kvs.length < 16777216 ∧ ∀ ep', Q (aZ σ a (.idict (cj kvs k v) ep'))
theorem qz : qO C k tN := by
 intro A s σ o i v wo wi w Q P E ao R vo vi vv q hP
 obtain ⟨a, rfl, q1⟩ := isR.elim q
 obtain ⟨x, rfl, kvs, ep, hx, hz, q⟩ := isI.elim q1
 ·cases vo; cases vi
  obtain ⟨_, kws, h1, h2⟩ := R.view _ _ hx
  have hl := h2.length
  refine wpAny_setItem_pairs (knd := intKind C.prog C.w) (ir x _) h1.dictOf (fun h' hd' hs' => ?_) (by rw [sizeLine_eq, ← hl]; omega)
  obtain ⟨ep', hat⟩ := hd'.dictAt
  have kt : a6 s.heap h' := fun b o eb ht => hs'.extBut b o (by rintro rfl; exact p8 h1 o eb ht) eb
  have vl := jf kvs x v
  exact hP (aZ σ a (.idict (cj kvs x v) ep')) _ (R.change (tk := s.toks + 1) hx hs' ⟨by omega, _, hat, (h2.storedI vv).keep kt⟩) (.change hx hs') (q ep')
noncomputable def qv : O2 := fun i o σ Q => isI i fun x => isR o fun a => ∃ kvs ep, σ a = some (.idict kvs ep) ∧ Q (.bool (b9 kvs x).isSome) σ
theorem sz (O : C.Ok) : gQ C k (compareOp .In) qv := by
 intro A s σ a b wa wb Q P E ao R va vb q hP
 obtain ⟨x, rfl, q1⟩ := isI.elim q
 obtain ⟨a, rfl, kvs, ep, hx, q⟩ := isR.elim q1
 ·cases va; cases vb
  obtain ⟨_, kws, h1, h2⟩ := R.view _ _ hx
  refine wpAny_in_of (knd := intKind C.prog C.w) (ir x _) (O.noMods (R.apart a (by rw [hx]; simp))) h1.dictOf.mapOf ?_
  rw [← h2.noneI]
  exact hP _ _ σ _ (.bool _) (R.tok _) Step.refl q
noncomputable def ip : O2 := fun o i σ Q => isR o fun a => isI i fun x => ∃ kvs ep v, σ a = some (.idict kvs ep) ∧ b9 kvs x = some v ∧ Q v σ
theorem sw {slice : Expr} (hsl : ff slice = false) : gQ C k (fun o i => getitemInPython o >>= fun b => subscripted slice b o i) ip := by
 intro A s σ a b wa wb Q P E ao R va vb q hP
 obtain ⟨a, rfl, q1⟩ := isR.elim q
 obtain ⟨x, rfl, kvs, ep, v, hx, hv, q⟩ := isI.elim q1
 ·cases va; cases vb
  obtain ⟨_, kws, h1, h2⟩ := R.view _ _ hx
  obtain ⟨w, e1, e2⟩ := h2.findI hv
  exact dG hsl h1.dictOf.typeIs slot_dict_getitem.lookup (wpAny_getItem_of (knd := intKind C.prog C.w) (ir x _) h1.dictOf.mapOf e1 (hP _ _ σ _ e2 (R.tok _) Step.refl q))
theorem tx {value slice : Expr} {pos : Pos} {T U : ET} (hv : HE C sc k value T) (hi : HE C sc k slice U) (hs : ff slice = false) : HE C sc k (.Subscript value slice pos) (aB ip T U) :=
 qf hv hi (sw hs)
end
end Mine
end
noncomputable section
set_option maxRecDepth 100000
namespace Mine
open PySem PySem.W PyProof.Rows PySem.Calls
section
variable {C : Cx} {p : Program} {sc : Scope} {k : Nat}
noncomputable def j3 : O2 := fun i o σ Q => isI i fun x => isR o fun a => ∃ kvs ep, σ a = some (.idict kvs ep) ∧ Q (.bool (!(b9 kvs x).isSome)) σ
theorem rn (O : C.Ok) : gQ C k (compareOp .NotIn) j3 := by
 intro A s σ a b wa wb Q P E ao R va vb q hP
 obtain ⟨x, rfl, q1⟩ := isI.elim q
 obtain ⟨a, rfl, kvs, ep, hx, q⟩ := isR.elim q1
 ·cases va; cases vb
  obtain ⟨_, kws, h1, h2⟩ := R.view _ _ hx
  refine wpAny_notIn_of (knd := intKind C.prog C.w) (ir x _) (O.noMods (R.apart a (by rw [hx]; simp))) h1.dictOf.mapOf ?_
  rw [← h2.noneI]
  exact hP _ _ σ _ (.bool _) (R.tok _) Step.refl q
structure HQ (C : Cx) (sc : Scope) (e : Expr) (T : ET) : Prop where
 run : ∀ (env : Env) (A : Around) (s : Shared) (m : bg) (σ : ai) (Q : V → ai → Prop) (P : Value → Shared → Prop) (E : Value → Shared → Prop),
  EnvOk env sc → RelG C σ s → FrameRel C env m σ s.heap → T m σ Q → (∀ v w tk, VRel C.aS s.heap v w → Q v σ → P w { s with toks := tk }) → wpAny (model C.prog C.w) A (eval e env) P E s
theorem nn {x : String} {pos : Pos} (h : sc.names.lookup (Str.ofString x) = some .local) (hd : (Str.ofString x == ("__debug__" : Str)) = false) : HQ C sc (.Name (Str.ofString x) pos) (ae x) := by
 refine ⟨?_⟩; intro env A s m σ Q P E en R F q₀ hP
 obtain ⟨v, hv, q⟩ := q₀.elim
 obtain ⟨mm, hn, hm⟩ := F.ns
 obtain ⟨w, hw, hr⟩ := hm x v hv (en.of h)
 exact wpAny_Name (wpAny_loadName_local en.k (en.of h) hn hw (hP v w s.toks hr q)) hd
theorem uv {b : Bool} {n : Nat} {pos : Pos} : HQ C sc (.Constant (.bool b) n pos) (aE (.bool b)) := by
 refine ⟨?_⟩; intro env A s m σ Q P E en R F q hP
 exact wpAny_Constant_bool (hP _ _ s.toks (.bool b) q)
noncomputable def xm (kvs : List (Int × V)) (σ : ai) (Q : V → ai → Prop) : Prop := ∀ a ep, σ a = Option.none → Q (.ref a) (aZ σ a (.idict kvs ep))
noncomputable def jJ (T U : ET) : ET := fun m σ Q => T m σ fun v σ₁ => U m σ₁ fun u σ₂ => ∃ i, v = .int i ∧ xm [(i, u)] σ₂ Q
theorem lS {key val : Expr} {pos : Pos} {T U : ET} (hk : HQ C sc key T) (hv : HQ C sc val U) : HE C sc k (.Dict [some key] [val] pos) (jJ T U) := by
 refine ⟨?_⟩; intro env A s m σ Q P E en ao R F q hP
 have hn := bV s.heap
 have R₀ : RelG C σ { s with heap := s.heap.push { cls := .type "dict", data := .dict #[] } } := R.grow (tk := s.toks) aX
 have F₀ : FrameRel C env m σ (s.heap.push { cls := .type "dict", data := .dict #[] }) := F.step R .push
 refine wpAny_Dict_walk (knd := intKind C.prog C.w) rfl rfl (by simp) (by simp) (pairTrees_cons_walk (hk.run env A _ m σ _ _ E en R₀ F₀ q fun v w tk hvr q₁ => hv.run env A _ m σ _ _ E en (R₀.tok tk) F₀ q₁ fun u wu tk' hu q₂ => pairTrees_nil_walk ?_))
 obtain ⟨i, rfl, q₂⟩ := q₂
 cases hvr
 refine ⟨[(i, wu)], ⟨ir i _, rfl, trivial⟩, Heap.DictOf.new s.heap, fun h' hd hs => ?_⟩
 have hm : merged ([] : List (Int × Value)) [(i, wu)] = [(i, wu)] := by simp [merged, stored]
 rw [hm] at hd
 obtain ⟨ep, hat⟩ := hd.dictAt
 have old : ∀ b o, s.heap.get? b = some o → h'.get? b = some o := fun b o e => (hs.2 b (Nat.ne_of_lt (Heap.lt_size e))).trans (aX b o e)
 have kt : a6 (s.heap.push { cls := .type "dict", data := .dict #[] }) h' := fun b o e ht => (hs.2 b (by
  rintro rfl
  rw [Heap.get?_push_size _ rfl] at e; cases e
  obtain ⟨_, _, _, z⟩ := ht; cases z)).trans e
 have hz : s.heap.objs.size ≤ h'.objs.size := by
  have h1 : h'.objs.size = (s.heap.push { cls := .type "dict", data := .dict #[] }).objs.size := hs.1
  have h2 : (s.heap.push { cls := .type "dict", data := .dict #[] }).objs.size = s.heap.objs.size + 1 := Heap.size_push _ _
  omega
 exact hP (.ref _) _ (aZ σ s.heap.objs.size (.idict [(i, u)] ep)) _ (.ref _) (R.add (tk := tk' + 1) old hn ⟨by simp, _, hat, rfl, hu.keep kt, trivial⟩) (.add old hz (Nat.le_refl _)) (q₂ _ ep (R.freshNone hn))
noncomputable def my (ks : List Int) : List Int := ks.mergeSort fun a b => decide (a ≤ b)
theorem gp (xs : List Int) : (my xs).Perm xs := List.mergeSort_perm _ _
theorem jg (xs : List Int) : (my xs).Pairwise (· ≤ ·) := by
 have := List.pairwise_mergeSort (le := fun a b : Int => decide (a ≤ b)) (fun a b c h1 h2 => by simp at *; omega) (fun a b => by simp; omega) xs
 exact this.imp fun h => by simpa using h
theorem fe : ∀ {a b : List Int}, a.Perm b → a.Pairwise (· ≤ ·) → b.Pairwise (· ≤ ·) → a = b
 | [], _, p, _, _ => p.nil_eq
 | x :: r, b, p, ha, hb => by
  cases b with
  | nil => exact absurd p.length_eq (by simp)
  | cons y t =>
   have hx : x ∈ y :: t := p.mem_iff.mp (.head _)
   have hy : y ∈ x :: r := p.mem_iff.mpr (.head _)
   have e : x = y := by
    rcases List.mem_cons.mp hx with h | h
    ·exact h
    ·rcases List.mem_cons.mp hy with h' | h'
     ·exact h'.symm
     ·exact Int.le_antisymm ((List.pairwise_cons.mp ha).1 y h') ((List.pairwise_cons.mp hb).1 x h)
   subst e
   rw [fe (List.Perm.cons_inv p) (List.pairwise_cons.mp ha).2 (List.pairwise_cons.mp hb).2]
theorem oa {aS : Addr} {h : Heap} {ys : List Int} {ws : List Value} (x : IntsAre ws ys) : VRels aS h (ys.map .int) ws := by
 induction x with
 | nil => exact .nil
 | cons y t r ih => exact .cons (.int y t) ih
theorem kg {aS : Addr} {h : Heap} : ∀ {ys : List Int} {ws : List Value}, VRels aS h (ys.map .int) ws → IntsAre ws ys
 | [], _, r => by rw [r.inv0]; exact .nil
 | y :: ys, _, r => by
  obtain ⟨w, ws, rfl, h1, r2⟩ := r.invC
  obtain ⟨t, rfl⟩ := h1.invInt
  exact .cons y t (kg r2)
theorem oe {ys : List Int} {ws : List Value} (x : IntsAre ws ys) : ws.length = ys.length := by
 induction x with
 | nil => rfl
 | cons y t r ih => exact congrArg (· + 1) ih
theorem ru {s : Shared} {kvs : List (Int × V)} {kws : List (Int × Value)} {vs : List Value} (h2 : PRel C.aS s.heap kvs kws) (hl : vs.length = kws.length) (hv : ∀ (j : Nat) (v : Value), vs[j]? = some v → ∃ k x, kws[j]? = some (k, x) ∧ (intKind C.prog C.w).is k v = true) : IntsAre vs (kvs.map (·.1)) := by
 have hkeys : kvs.map (·.1) = kws.map (·.1) := by
  clear hl hv
  induction kvs generalizing kws with
  | nil => cases kws with | nil => rfl | cons _ _ => exact h2.elim
  | cons q r ih => cases kws with
   | nil => exact h2.elim
   | cons q' r' => obtain ⟨e, _, h⟩ := h2; simp only [List.map_cons]; rw [ih h]; exact congrArg (· :: _) e
 rw [hkeys]
 clear h2 hkeys
 induction kws generalizing vs with
 | nil => have : vs = [] := List.length_eq_zero_iff.mp (by simpa using hl); subst this; exact .nil
 | cons q kws ih =>
  match vs, hl with
  | v :: vs, hl =>
   obtain ⟨ky, x, e1, e2⟩ := hv 0 v rfl
   simp at e1
   subst e1
   obtain ⟨t, rfl⟩ := Value.isInt_shape e2
   exact .cons ky t (ih (by simpa using hl) fun j v e => hv (j + 1) v (by simpa using e))
noncomputable def l5 : b7 := fun vs σ Q => onR vs fun a => ∃ ns : List Int, σ a = some (.list (ns.map .int)) ∧ 0 < ns.length ∧ ∀ M, M ∈ ns → (∀ b, b ∈ ns → b ≤ M) → Q (.int M) σ
theorem tX (hz : C.held = Option.none) : nz C k (fun ws => PySem.call (.builtin "max") ws) l5 := by
 intro A s σ vs ws Q P E ao R hv q hP
 obtain ⟨a, rfl, ns, hx, hne, q⟩ := onR.elim q
 ·obtain ⟨wa, rfl, h1⟩ := hv.inv1
  cases h1
  obtain ⟨_, us, h2, h3⟩ := R.view _ _ hx
  have hI := kg h3
  obtain ⟨xs, e⟩ := hI.allInts.items
  have hns : ns = xs.toList.map (·.1) := by
   rw [← hI.numsOf, ← nums_intItems, ← e]
  have hsz : 0 < xs.size := by
   have h3 := hne; rw [hns, List.length_map, Array.length_toList] at h3; exact h3
  have hl := h2.isList
  rw [e] at hl
  refine bv (max_intList (ao.none hz) hl hsz fun v h' tk hv hk => ?_)
  intro hsz'
  obtain ⟨t, rfl⟩ := intItems_at hv
  obtain ⟨h4, h5⟩ := argBest_gt (numAt xs) (xs.size - 1)
  refine hP _ _ σ _ (.int _ _) (R.grow hk) (.grow hk hsz') (q _ ?_ fun b hb => ?_)
  ·rw [hns, numAt_eq]; exact getD_mem (by rw [List.length_map, Array.length_toList]; omega)
  ·rw [hns] at hb
   obtain ⟨j, hj, rfl⟩ := mem_getD hb
   rw [List.length_map, Array.length_toList] at hj
   rw [← numAt_eq]; exact h5 j (by omega)
theorem uy (G : Gl C p) (hz : C.held = Option.none) {np pos : Pos} {es : List Expr} {L : LT} (hn : sc.names.lookup (Str.ofString "max") = some .globalImplicit) (hl : HL C sc k es L) (hp : aO es = true) : HE C sc k (.Call (.Name (Str.ofString "max") np) es [] pos) (az l5 L) :=
 df G.ok (tX hz) hn (G.free _ (by decide)) (G.blt to (by decide)) rfl hl hp
noncomputable def iM (B : BT) (T : ST) : Nat → ST
 | 0 => fun _ _ _ => False
 | n + 1 => fun m σ Q => B m σ fun b σ' => if b then T m σ' (fun f m₁ σ₁ => match f with
  | .next => iM B T n m₁ σ₁ Q
  | .cont => iM B T n m₁ σ₁ Q
  | .brk => Q .next m₁ σ₁
  | .ret v => Q (.ret v) m₁ σ₁) else Q .next m σ'
noncomputable def se (B : BT) (T : ST) : ST := fun m σ Q => ∃ n, iM B T n m σ Q
theorem rO {test : Expr} {body : List Stmt} {pos : Pos} {B : BT} {T : ST} (hb : HB C sc k test B) (ht : HS C sc k body T) : HS1 C sc k (.While test body [] pos) (se B T) := by
 refine ⟨?_⟩; intro env A s m σ Q P E en ao R F ⟨n, q⟩ hP
 refine wpAny_While (codeAny_whileLoop (fun n s' => ∃ m' σ', RelG C σ' s' ∧ FrameRel C env m' σ' s'.heap ∧ Step (qe env) σ σ' s.heap s'.heap ∧ iM B T n m' σ' Q) ?_ n ⟨m, σ, R, F, Step.refl, q⟩)
 rintro n s' ⟨m', σ', R', F', S', q'⟩
 cases n with
 | zero => exact q'.elim
 | succ n =>
  refine hb.run env A s' m' σ' _ _ _ en ao R' F' q' fun b σ₁ s₁ R₁ S₁ q₁ => ?_
  have S₁' := S'.trans S₁.own
  cases b with
  | false =>
   simp only [Bool.false_eq_true, if_false] at q₁ ⊢
   exact wpAny_execs_nil (hP .next .next m' σ₁ s₁ .next R₁ (F'.step R' S₁) S₁' q₁)
  | true =>
   simp only [if_true] at q₁ ⊢
   refine ht.run env A s₁ m' σ₁ _ _ _ en ao R₁ (F'.step R' S₁) q₁ fun f g m₂ σ₂ s₂ hf R₂ F₂ S₂ q₂ => ?_
   have S₂' := S₁'.trans S₂
   cases hf with
   | next => exact ⟨n, Nat.lt_succ_self _, m₂, σ₂, R₂, F₂, S₂', q₂⟩
   | cont => exact ⟨n, Nat.lt_succ_self _, m₂, σ₂, R₂, F₂, S₂', q₂⟩
   | brk => exact hP .next .next m₂ σ₂ s₂ .next R₂ F₂ S₂' q₂
   | ret hv => exact hP _ _ m₂ σ₂ s₂ (.ret hv) R₂ F₂ S₂' q₂
end
end Mine
end
noncomputable section
set_option maxRecDepth 100000
namespace Mine
open PySem PySem.W PyProof.Rows PySem.Calls
section
variable {C : Cx} {p : Program} {sc : Scope} {k : Nat}
noncomputable def eh : ST := fun _ _ _ => False
theorem cH {st : Stmt} : HS1 C sc k st eh := ⟨fun _ _ _ _ _ _ _ _ _ _ _ _ q _ => q.elim⟩
section
variable {m : bg} {σ : ai} {Q : Fl → bg → ai → Prop} {X : XT} {R : V → ai → Prop} {Y : String → ai → Prop}
@[simp] theorem wn : eh m σ Q = False := rfl
end
noncomputable def lA (a : Int) : List V := (List.range (a + 1).toNat).map fun (i : Nat) => .int (a - i)
theorem t9 (hz : C.held = none) (I : Addr) (a : Int) (n : Nat) : It C k I ((List.range n).map fun (i : Nat) => V.int (a - i)) (fun _ => True) (fun i h => IsRangeIter h I (a + (i : Nat) * (-1)) ((n : Int) - (i : Nat)) (-1)) where
 frame := fun i h h' st kI _ => kI _ st
 live := fun i h st => ⟨_, st, fun ⟨_, _, _, h2⟩ => by simp at h2, fun v h2 => by simp at h2⟩
 flds := fun i h st o' ho' es ep z => by rw [st] at ho'; cases ho'; cases z
 next := fun A σ s i v Q E ao R inv st hv hQ => by
  rw [List.getElem?_map] at hv
  obtain ⟨j, hj, rfl⟩ := Option.map_eq_some_iff.mp hv
  have hjn := List.getElem?_eq_some_iff.mp hj
  obtain ⟨hlt, hji⟩ := hjn
  simp at hji hlt
  subst hji
  refine wpAny_pyNext_range_item st (by omega) fun h' hit' hs' => ?_
  have e1 : a + ((i + 1 : Nat) : Int) * (-1) = a + (i : Int) * (-1) + (-1) := by push_cast; omega
  have e2 : (n : Int) - ((i + 1 : Nat) : Int) = (n : Int) - (i : Int) - 1 := by push_cast; omega
  refine hQ _ h' _ ?_ (by rw [e1, e2]; exact hit') hs'.extBut
  have e3 : a + (i : Int) * (-1) = a - i := by omega
  rw [e3]; exact .int _ _
 done := fun A σ s Q E ao R inv st hQ => wpAny_pyNext_range_end (ao.none hz) st (by simp) fun h' hx => hQ h' s.toks hx
 self := fun A s i Q E st q => wpAny_pyIter_rangeiter st q
 own := fun A s i t w Q E st q => cD st rfl (by decide) q
noncomputable def onH (vs : List V) (F : Int → List V → Prop) : Prop := match vs with | a :: r => isI a fun x => F x r | _ => False
theorem onH.elim {vs : List V} {F : Int → List V → Prop} (h : onH vs F) : ∃ x r, vs = .int x :: r ∧ F x r := by
 rcases vs with _ | ⟨a, r⟩
 ·exact False.elim h
 ·obtain ⟨x, rfl, h⟩ := isI.elim h; exact ⟨x, r, rfl, h⟩
noncomputable def p7 (vs : List V) (σ : ai) (Q : List V → (ai → Prop) → ai → Prop) : Prop :=
 onH vs fun a r => onH r fun b r => onI r fun c => (b = -1 ∧ c = -1 ∧ 0 ≤ a ∧ a < 1000000) ∧ Q (lA a) (fun _ => True) σ
noncomputable def sT (L : LT) : IT := fun m σ Q => L m σ fun vs σ' => p7 vs σ' Q
theorem fO {a : Int} (h : 0 ≤ a) : Builtin.Range.rangeSize a (-1) (-1) = a + 1 := by
 unfold Builtin.Range.rangeSize
 simp
 omega
theorem ux (G : Gl C p) (hz : C.held = none) {np pos : Pos} {es : List Expr} {L : LT} (hn : sc.names.lookup (Str.ofString "range") = some .globalImplicit) (hl : HL C sc k es L) (hp : aO es = true) :
  HI C sc k (.Call (.Name (Str.ofString "range") np) es [] pos) (sT L) := by
 refine ⟨?_⟩; intro env A s m σ Q P E en ao R F q hP
 have O := G.ok
 refine wpAny_Call_NameR (Calls.Name_function_global en.k (en.of hn) (Calls.loadGlobal_builtin (mg := C.mg) (mb := C.mb) (by rw [en.globals]; exact O.g.keeps R.base) (G.free _ (by decide)) (by rw [en.builtins]; exact O.b.keeps R.base) (G.blt oK (by decide)) ?_) (by decide))
 refine PySem.callWith_type (bp hp) (bE hp (hl.run env A s m σ pos _ _ E en ao R F q fun vs ws σ₁ s₁ hv R₁ S₁ q₁ => ?_))
 have fr : s.heap.objs.size ≤ s₁.heap.objs.size + 1 := Nat.le_succ_of_le S₁.size
 have hσ : σ₁ (s₁.heap.objs.size + 1) = Option.none := R₁.freshNone (aI (Nat.le_succ _))
 show wpAny _ A (PySem.call (.type "range") ([] ++ ws)) _ _ _
 rw [List.nil_append]
 obtain ⟨a, _, rfl, q2⟩ := onH.elim q₁
 obtain ⟨b, _, rfl, q3⟩ := onH.elim q2
 obtain ⟨c, rfl, q4⟩ := onI.elim q3
 ·obtain ⟨⟨rfl, rfl, h0, h9⟩, q5⟩ := q4
  cases hv with | cons h1 r => cases r with | cons h2 r => cases r with | cons h3 r => cases r with | nil => cases h1 with | int a t => cases h2 with | int b u => cases h3 with | int c v =>
   refine call_range_3 (by decide) ?_ (Or.inl (PyProof.noPylong_small (by omega)))
   refine wpAny_pyIter_range (IsRange.new ..) (by
    unfold Builtin.Range.small
    rw [fO h0]
    simp only [Builtin.Range.rangeFitsLong, Bool.and_eq_true, Bool.or_eq_true, decide_eq_true_eq, beq_iff_eq, show ¬ ((-1 : Int) > 0) by decide, if_false]
    simp
    omega) ?_
   have hsz : Builtin.Range.rangeSize a (-1) (-1) = (((a + 1).toNat : Nat) : Int) := by rw [fO h0]; omega
   have hit := t9 (C := C) (k := k) hz (s₁.heap.objs.size + 1) a (a + 1).toNat
   have R₂ : RelG C σ₁ { s₁ with heap := (s₁.heap.push { cls := .type "range", data := .fields #[.int a t, .int (-1) u, .int (-1) v] }).push { cls := .type "range_iterator", data := .fields #[rawInt a, rawInt (Builtin.Range.rangeSize a (-1) (-1)), rawInt (-1)] }, toks := s₁.toks } :=
    R₁.grow fun _ _ e => aX _ _ (aX _ _ e)
   have e := Heap.get?_push_size (s₁.heap.push { cls := .type "range", data := .fields #[.int a t, .int (-1) u, .int (-1) v] }) (o := { cls := .type "range_iterator", data := .fields #[rawInt a, rawInt (Builtin.Range.rangeSize a (-1) (-1)), rawInt (-1)] }) rfl
   rw [Heap.size_push] at e
   have this := hP _ _ _ _ σ₁ _ hit (by
     show IsRangeIter ((s₁.heap.push { cls := .type "range", data := .fields #[.int a t, .int (-1) u, .int (-1) v] }).push { cls := .type "range_iterator", data := .fields #[rawInt a, rawInt (Builtin.Range.rangeSize a (-1) (-1)), rawInt (-1)] }) _ _ _ _
     unfold IsRangeIter
     rw [e, hsz]; simp) fr hσ R₂ ((S₁.trans .push).trans .push) q5
   rw [Heap.size_push]
   exact this
end
theorem MtAt.mk {C : Cx} (O : C.Ok) {bk N : Addr} {mN : Str → Option Value} (B : Bk C bk N mN) {K : Frag} (KX : K.In C.hB) {f : String} {xs : List String} {j : Nat} {spec : b7} {T : ST} {fa : Addr} {oc : Obj} {fd : FuncData} {body : List Stmt} {sc : Scope}
  (hm : K.lookup fa = some oc ∧ oc.cls = .type "function" ∧ oc.data = .func fd ∧ codeIn K fd.code fd.qualname = true ∧ fd.body = .stmts body ∧ fd.scope = sc ∧ fd.closure = [] ∧ fd.globals = mainGlobals ∧ fd.builtins = builtinsNs) (hn : nsIn K N (Str.ofString f) = some (some (.ref fa)))
  (hk : sc.kind = .function) (hfr : (sc.names.all fun q => q.2 != .free) = true) (hco : sc.isCoroutine = false) (hgen : sc.isGenerator = false) (hlen : True = True)
  (hbind : ∀ (ws : List Value), ws.length = xs.length → bindArgs fd ⟨ws, []⟩ = pure ((xs.map Str.ofString).zip ws))
  (hloc : (xs.all fun x => sc.names.lookup (Str.ofString x) == some .local || sc.names.lookup (Str.ofString x) == some .cell) = true)
  (hT : HS C sc j body T)
  (hspec : ∀ vs σ Q, spec vs σ Q → vs.length = xs.length ∧ T (aF xs vs aN) σ (fin Q)) : MtAt C mN j f spec := by
 obtain ⟨h1, h2, h3, h4, h5, h6, h7, h8, h9⟩ := hm
 refine ⟨fa, oc, fd, ?_, KX _ _ h1, h2, h3, FnSound.mk O (xs := xs) (KX _ _ h1) h3 (codeRec_of KX h4) h5 h6 h7 h8 h9 hk ?_ hco hgen hbind ?_ hT hspec⟩
 ·obtain ⟨o, es, ep, ho, hd, _, hf⟩ := B.cls.ns
  unfold nsIn at hn
  split at hn
  ·rename_i c d es' n' sl q
   have := KX _ _ q
   rw [ho] at this
   cases this
   cases hd
   split at hn
   ·rename_i en he
    have hv := Option.some.inj (Option.some.inj hn)
    rw [← hf, ← hv]
    unfold nsFind findBy
    rw [← Array.find?_toList, he]
    rfl
   ·split at hn <;> cases hn
  ·cases hn
 ·intro q hq
  have := List.all_eq_true.mp hfr q hq
  simpa using this
 ·intro x hx
  have := List.all_eq_true.mp hloc x hx
  simp only [Bool.or_eq_true, beq_iff_eq] at this
  exact this
end Mine
namespace Mine
open PySem PySem.W PyProof.Rows PySem.Calls
section
variable {C : Cx} {sc : Scope} {k : Nat}
end
end Mine
end
noncomputable section
set_option maxRecDepth 100000
namespace Mine
open PySem PySem.W PyProof.Rows PySem.Calls
theorem t6 : typeLookup (.type "list_reverseiterator") "__len__" = pure none := by rw [typeLookup_type, builtinLookup_eq_fast]; kernel_rfl
theorem sI : typeLookup (.type "list_reverseiterator") "__length_hint__" = pure (some (.builtin "list_reverseiterator.__length_hint__")) := by rw [typeLookup_type, builtinLookup_eq_fast]; kernel_rfl
section
variable {prog : Program} {w : World} {A : Around} {E : Value → Shared → Prop} {s : Shared}
theorem sU {r : Addr} {Q : Bool → Shared → Prop} (hT : s.TypeIs (.ref r) "list_reverseiterator") (h : Q false s) : wpAny (model prog w) A (Builtin.List.listLengthHint (.ref r)) Q E s := by
 unfold Builtin.List.listLengthHint
 refine wpAny_bind (wpAny_specialOf hT t6 ?_)
 refine wpAny_ite_split (fun hab => absurd hab (by decide)) (fun _ => ?_)
 refine wpAny_ite_split (fun hab => absurd hab (by decide)) (fun _ => ?_)
 refine wpAny_bind (wpAny_specialOf hT sI ?_)
 generalize hid : ("list_reverseiterator.__length_hint__" : String) = id0
 wp_delta
 rw [show splitId id0 = some ("list_reverseiterator", "__length_hint__") from by subst hid; decide +kernel]
 subst hid
 refine wpAny_bind (wpAny_isInstance (T := "list_reverseiterator") (b := true) hT (by rw [isSubtype_type]; kernel_rfl) ?_)
 refine wpAny_ite_split (fun hab => absurd hab (by decide)) (fun _ => ?_)
 refine wpAny_ite_split (fun _ => ?_) (fun hab => absurd (by decide +kernel) hab)
 refine wpAny_ite_split (fun hab => absurd hab (by decide +kernel)) (fun _ => ?_)
 exact wpAny_pure h
theorem sh {Q : Value → Shared → Prop} {I l : Addr} {items : Array Value} (hh : A.handled = none) (hit : s.heap.IsRevIter I l ((items.size : Int) - 1)) (hl : s.heap.IsList l items) (hne : l ≠ I) (hn : items.size ≤ sizeLine)
  (hQ : ∀ h' tk acc' c', (∀ b o, b ≠ I → s.heap.get? b = some o → h'.get? b = some o) → h'.get? s.heap.objs.size = some { cls := .type "list", dict := none, data := .seq acc' c', slots := #[] } → ItemsOf (fun i v => items[items.size - 1 - i]? = some v) acc' items.size → Q (.ref s.heap.objs.size) { s with heap := h', toks := tk }) :
  wpAny (model prog w) A (call (.type "list") [.ref I]) Q E s := by
 refine callType_codes (Q₁ := fun obj s₁ => obj = .ref s.heap.objs.size ∧ s₁ = { s with heap := s.heap.push { cls := .type "list", data := .seq #[] } }) PySem.F.called_list (PySem.F.typeCall_list_1 _) PySem.F.entry_list_init
  (code_list_new _ ⟨rfl, rfl⟩) fun obj s₁ h₁ => ?_
 obtain ⟨rfl, rfl⟩ := h₁
 have hS : (s.heap.push { cls := .type "list", data := .seq #[] }).get? s.heap.objs.size = some { cls := .type "list", data := .seq #[] } := Heap.get?_push_size _ rfl
 have hIlt : I < s.heap.objs.size := let ⟨o, ho, _⟩ := hit; Heap.lt_size ho
 have hllt : l < s.heap.objs.size := let ⟨o, ho, _⟩ := hl; Heap.lt_size ho
 refine ⟨⟨_, hS, rfl⟩, PySem.F.args_list_init_2 _ _, ?_⟩
 generalize hSd : s.heap.objs.size = S at *
 have hSI : S ≠ I := Nat.ne_of_gt hIlt
 have hSl : S ≠ l := Nat.ne_of_gt hllt
 show wpAny _ _ (do let old ← Builtin.List.listItems (.ref S); Builtin.List.listUpdate (.ref S) (fun _ => #[]); letGo old.toList.reverse; Builtin.List.listExtendWith (.ref S) (.ref I) .none) _ _ _
 refine wpAny_bind ?_
 unfold Builtin.List.listItems
 refine wpAny_bind (wpAny_seqItems hS rfl (wpAny_pure ?_))
 show wpAny _ _ (updateSeq S (fun _ => #[]) >>= fun _ => letGo (#[] : Array Value).toList.reverse >>= fun _ => Builtin.List.listExtendWith (.ref S) (.ref I) .none) _ _ _
 refine wpAny_bind (wpAny_updateSeq hS rfl ?_)
 have hS₂ := Heap.get?_update_self (Obj.mapSeq (fun _ => (#[] : Array Value))) hS rfl
 have old : ∀ b o, s.heap.get? b = some o → ((s.heap.push { cls := .type "list", data := .seq #[] }).update S (Obj.mapSeq (fun _ => (#[] : Array Value)))).get? b = some o := fun b o e =>
  (Heap.get?_update_other _ _ (Nat.ne_of_gt (hSd ▸ Heap.lt_size e))).trans (Heap.get?_push_of_some _ e)
 refine wpAny_bind (wpAny_letGo ?_)
 have hit₂ := hit.at fun o e => old I o e
 have hl₂ := hl.at fun o e => old l o e
 unfold Builtin.List.listExtendWith
 refine wpAny_bind (wpAny_typeOf (T := "list_reverseiterator") hit₂.typeIs ?_)
 have h1 : Builtin.List.listSameRef (.ref S) (.ref I) = false := by simp [Builtin.List.listSameRef, hSI]
 have h2 : (Value.type "list_reverseiterator" == Value.type "list") = false := by decide
 have h3 : (Value.type "list_reverseiterator" == Value.type "tuple") = false := by decide
 simp only [h1, h2, h3, Bool.or_false, Bool.false_eq_true, if_false]
 refine wpAny_bind (wpAny_pyIter_revIter hit₂ ?_)
 refine wpAny_bind (wpAny_holding (sU hit₂.typeIs ?_))
 refine wpAny_ite_split (fun hab => absurd hab (by decide +kernel)) (fun _ => wpAny_pure ⟨plainId_quiet PySem.F.plain_extend_loop _, ?_⟩)
 have W := Walks.listRev (prog := prog) (w := w) (A := A.in1.in1) hh I l hne items
 refine codeAny_extend_loopS W.toS hn S (by simp only [List.mem_cons, List.not_mem_nil, or_false, not_or]; exact ⟨hSI, hSl⟩) .none items.size 0 _ #[] _ rfl (Nat.zero_le _) ⟨Nat.zero_le _, by simpa using hit₂, hl₂⟩ hS₂ (ItemsOf.nil _) fun s' acc' c' hm hS' hacc => ?_
 rw [Moved.eq_with hm]
 refine ⟨rfl, hQ s'.heap s'.toks acc' c' (fun b o hb e => hm.heap b o (fun hmem => ?_) (old b o e)) hS' hacc⟩
 rcases List.mem_cons.mp hmem with e' | hmem
 ·exact absurd (Heap.lt_size e) (by rw [e', hSd]; exact Nat.lt_irrefl _)
 ·exact hb (List.mem_singleton.mp hmem)
end
section
variable {C : Cx} {p : Program} {sc : Scope} {k : Nat}
theorem vT : bootBuiltins (Str.ofString "reversed") = some (.type "reversed") := by decide +kernel
noncomputable def ku (T : ET) : ET := fun m σ Q => T m σ fun v σ₁ => ∃ a xs, v = .ref a ∧ σ₁ a = some (.list xs) ∧ dc xs.reverse σ₁ Q
theorem qh (G : Gl C p) (hpl : C.held = Option.none) (hrev : C.mg (Str.ofString "reversed") = Option.none) {np pos np2 cp : Pos} {o : Expr} {T : ET} (hn : sc.names.lookup (Str.ofString "list") = some .globalImplicit) (hn2 : sc.names.lookup (Str.ofString "reversed") = some .globalImplicit) (ho : HE C sc k o T) (hs : jG o = true) :
  HE C sc k (.Call (.Name (Str.ofString "list") np) [.Call (.Name (Str.ofString "reversed") np2) [o] [] cp] [] pos) (ku T) := by
 refine ⟨?_⟩; intro env A s m σ Q P E en ao R F q hP
 have O := G.ok
 refine wpAny_Call_NameR (Calls.Name_function_global en.k (en.of hn) (Calls.loadGlobal_builtin (mg := C.mg) (mb := C.mb) (by rw [en.globals]; exact O.g.keeps R.base) (G.free _ (by decide)) (by rw [en.builtins]; exact O.b.keeps R.base) (G.blt qJ (by decide)) ?_) rfl)
 refine PySem.callWith_type (bp rfl) (bE rfl ?_)
 show wpAny _ A (spliced ((false, eval (.Call (.Name (Str.ofString "reversed") np2) [o] [] cp) env) :: backTo pos (starEach [] env))) _ E s
 refine Calls.spliced_cons ?_
 refine wpAny_Call_NameR (Calls.Name_function_global en.k (en.of hn2) (Calls.loadGlobal_builtin (mg := C.mg) (mb := C.mb) (by rw [en.globals]; exact O.g.keeps R.base) hrev (by rw [en.builtins]; exact O.b.keeps R.base) (G.blt vT (by decide)) ?_) rfl)
 have hpa : aO [o] = true := by simp [aO, hs]
 refine PySem.callWith_type (bp hpa) (bE hpa ?_)
 rw [cJ hs]
 show wpAny _ A (spliced ((false, eval o env) :: backTo cp (starEach [] env))) _ E s
 refine Calls.spliced_cons (ho.run env A s m σ _ _ E en ao R F q fun v w σ₁ s₁ hv R₁ S₁ q₁ => ?_)
 obtain ⟨a, xs, rfl, hx, q₁⟩ := q₁
 cases hv
 obtain ⟨hz, us, h1, h2⟩ := R₁.view _ _ hx
 have hl := h2.length
 refine Calls.spliced_nil ?_
 show wpAny _ A (PySem.call (.type "reversed") [.ref a]) _ E s₁
 refine call_reversed_list h1.isList ?_
 refine Calls.spliced_nil ?_
 show wpAny _ A (PySem.call (.type "list") [.ref s₁.heap.objs.size]) P E _
 have hao : a < s₁.heap.objs.size := let ⟨o, ho, _⟩ := h1.isList; Heap.lt_size ho
 refine bv (sh (items := us.toArray) (ao.none hpl) ⟨_, Heap.get?_push_size _ rfl, rfl, rfl⟩ (h1.isList.at fun o e => Heap.get?_push_of_some _ e) (Nat.ne_of_lt hao) (by rw [sizeLine_eq, List.size_toArray, ← hl]; exact hz) fun h' tk acc c hk hD hacc => ?_)
 intro hsz
 have hsp : (s₁.heap.push (revObj a ((us.toArray.size : Int) - 1))).objs.size = s₁.heap.objs.size + 1 := Heap.size_push _ _
 have hk' : ∀ b o, s₁.heap.get? b = some o → h'.get? b = some o := fun b o e => hk b o (Nat.ne_of_lt (Heap.lt_size e)) (Heap.get?_push_of_some _ e)
 have hkt : a6 s₁.heap h' := fun b o e _ => hk' b o e
 have rel : VRels C.aS h' xs.reverse acc.toList := by
  refine lw _ _ (by rw [Array.length_toList, hacc.1]; simp [hl]) fun j v w e1 e2 => ?_
  have e3 := hacc.2 j w (by rw [← Array.getElem?_toList]; exact e2)
  have hj : j < xs.length := by
   have := (List.getElem?_eq_some_iff.mp e1).1
   simpa using this
  rw [List.getElem?_reverse hj] at e1
  obtain ⟨w', e4, e5⟩ := h2.get e1
  rw [List.size_toArray, ← hl, List.getElem?_toArray, e4] at e3
  cases e3
  exact e5.keep hkt
 have hn2 : s₁.heap.get? (s₁.heap.objs.size + 1) = Option.none := aI (Nat.le_succ _)
 have hsz' : s₁.heap.objs.size ≤ h'.objs.size := by
  have h9 : (s₁.heap.push (revObj a ((us.toArray.size : Int) - 1))).objs.size ≤ h'.objs.size := hsz
  omega
 have hD' := hD
 rw [hsp] at hD' ⊢
 exact hP (.ref _) _ (aZ σ₁ (s₁.heap.objs.size + 1) (.list xs.reverse)) _ (.ref _) (R₁.add (tk := tk) hk' hn2 ⟨by simpa using hz, acc.toList, ⟨c, by simpa using hD'⟩, rel⟩) (S₁.trans (.add hk' hsz' (Nat.le_succ _))) (q₁ _ (R₁.freshNone hn2))
end
noncomputable def isC (d : Data) (f : ClassData → Bool) : Bool := match d with | .cls c => f c | _ => false
theorem isC.elim {d : Data} {f : ClassData → Bool} (h : isC d f = true) : ∃ c, d = .cls c ∧ f c = true := by
 cases d <;> first | exact Bool.noConfusion h | exact ⟨_, rfl, h⟩
noncomputable def hd1 {α : Type} (l : List α) (f : α → List α → Bool) : Bool := match l with | [] => false | a :: r => f a r
theorem hd1.elim {α : Type} {l : List α} {f : α → List α → Bool} (h : hd1 l f = true) : ∃ a r, l = a :: r ∧ f a r = true := by
 cases l with
 | nil => exact Bool.noConfusion h
 | cons a r => exact ⟨a, r, rfl, h⟩
noncomputable def yZ (K : Frag) (Cl N : Addr) (cd : ClassData) : Bool := cd.mro == [.ref Cl, .type "object"] && cd.hasDict && !cd.abstract && !cd.hasDel && cd.ns == N && nsOkIn K N && ["__getattribute__", "__getattr__", "__setattr__", "trees", "made_of"].all (fun n => nsIn K N (Str.ofString n) == some none)
noncomputable def bkS (l : List (Option Value)) : Bool := hd1 l fun _ l => hd1 l fun _ l => hd1 l fun _ l => hd1 l fun _ l => hd1 l fun n l => n == some (.builtin "object.__new__") && hd1 l fun _ l => l.isEmpty
theorem bkS.elim {l : List (Option Value)} (h : bkS l = true) : ∃ k0 k1 k2 k3 k5, l = [k0, k1, k2, k3, some (.builtin "object.__new__"), k5] := by
 obtain ⟨k0, _, rfl, h0⟩ := hd1.elim h
 obtain ⟨k1, _, rfl, h1⟩ := hd1.elim h0
 obtain ⟨k2, _, rfl, h2⟩ := hd1.elim h1
 obtain ⟨k3, _, rfl, h3⟩ := hd1.elim h2
 obtain ⟨k4, _, rfl, h4⟩ := hd1.elim h3
 have h5 := (Bool.and_eq_true _ _).mp h4
 obtain ⟨k5, _, rfl, h6⟩ := hd1.elim h5.2
 rw [List.isEmpty_iff.mp h6, beq_iff_eq.mp h5.1]
 exact ⟨k0, k1, k2, k3, k5, rfl⟩
noncomputable def xP (K : Frag) (Cl N : Addr) : Bool := (K.lookup Cl).any fun o => o.cls == .type "type" && isC o.data (yZ K Cl N) && bkS o.slots.toList
theorem ti {C : Cx} {K : Frag} {Cl N : Addr} (X : K.In C.hB) (q : xP K Cl N = true) (hg : C.mg (Str.ofString "Book") = some (.ref Cl)) : ∃ mN, Bk C Cl N mN := by
 obtain ⟨⟨c, dd, d, ⟨sl⟩⟩, ho, q⟩ := (Option.any_eq_true _ _).mp q
 rw [Bool.and_eq_true, Bool.and_eq_true, beq_iff_eq] at q
 obtain ⟨⟨q1, q2⟩, q3⟩ := q
 obtain ⟨cd, rfl, q⟩ := isC.elim q2
 obtain ⟨k0, k1, k2, k3, k5, rfl⟩ := bkS.elim q3
 cases q1
 obtain ⟨nm, bs, mro, ns, qn, hd, sn, sub, ab, col, zf⟩ := cd
 unfold yZ at q
 simp only [Bool.and_eq_true, beq_iff_eq, Bool.not_eq_true'] at q
 obtain ⟨⟨⟨⟨⟨⟨rfl, rfl⟩, rfl⟩, rfl⟩, rfl⟩, hok⟩, hni⟩ := q
 exact ⟨_, hg, ⟨⟨nm, qn, bs, sn, sub, col, dd, k0, k1, k2, k3, k5, X _ _ ho⟩, .of_isNs (isNs_of_in X hok)⟩, fun n hn => nsMap_none_of_in X hok (beq_iff_eq.mp (List.all_eq_true.mp hni n hn))⟩
end Mine
end
noncomputable section
namespace Mine
open PySem PySem.W PyProof.Rows PySem.Calls
noncomputable def mX (x : String) (v : V) (σ : ai) (Q : V → ai → Prop) : Prop := ∃ a dx fs t, v = .ref a ∧ σ a = some (.inst dx) ∧ σ dx = some (.ns fs) ∧ fs.lookup x = some (.ref t) ∧ Q (.ref t) σ
noncomputable def pR (f : String) (v : V) (σ : ai) : Prop := ∃ a dx fs, v = .ref a ∧ σ a = some (.inst dx) ∧ σ dx = some (.ns fs) ∧ fs.lookup f = none
noncomputable def listRev (v : V) (σ : ai) (Q : V → ai → Prop) : Prop := ∃ a xs, v = .ref a ∧ σ a = some (.list xs) ∧ dc xs.reverse σ Q
noncomputable def uH (x : String) (v o : V) (σ : ai) (F : ai → Prop) : Prop := ∃ a dx fs, o = .ref a ∧ σ a = some (.inst dx) ∧ σ dx = some (.ns fs) ∧ fs.length < 1000 ∧ F (aZ σ dx (.ns ((x, v) :: fs)))
section
variable {m : bg} {σ : ai} {Q : V → ai → Prop} {X : String → ai → Prop} {R : Fl → bg → ai → Prop} {J : List V → (ai → Prop) → ai → Prop} {ns : List Int}
@[simp] theorem xI {x : String} {T : ET} : d6 x T m σ Q = T m σ fun v σ' => mX x v σ' Q := rfl
@[simp] theorem wE {f : String} {spec : b7} {T : ET} {L : LT} : bj f spec T L m σ Q = T m σ fun v σ₁ => pR f v σ₁ ∧ L m σ₁ fun vs σ₂ => spec (v :: vs) σ₂ Q := rfl
@[simp] theorem wX {x : String} {T To : ET} : qt x T To m σ R = T m σ fun v σ₁ => To m σ₁ fun o σ₂ => uH x v o σ₂ fun σ₃ => R .next m σ₃ := rfl
theorem nN {x : String} {v : V} {a dx : Addr} {fs : List (String × V)} {F : ai → Prop} (h1 : σ a = some (.inst dx)) (h2 : σ dx = some (.ns fs)) (h3 : fs.length < 1000) (q : F (aZ σ dx (.ns ((x, v) :: fs)))) : uH x v (.ref a) σ F := ⟨a, dx, fs, rfl, h1, h2, h3, q⟩
@[simp] theorem ym {spec : b7} : vN spec m σ Q = ∀ a dx, σ a = none → σ dx = none → dx ≠ a → spec [.ref a] (aZ (aZ σ dx (.ns [])) a (.inst dx)) fun r σ' => r = .none ∧ Q (.ref a) σ' := rfl
noncomputable def uL (v : V) (F : Int → Prop) : Prop := ∃ i, v = .int i ∧ F i
@[simp] theorem ww (i : Int) (F : Int → Prop) : uL (.int i) F = F i := propext ⟨fun ⟨_, e, h⟩ => by cases e; exact h, fun h => ⟨i, rfl, h⟩⟩
noncomputable def xA (v : V) (F : Str → Prop) : Prop := ∃ i, v = .str i ∧ F i
@[simp] theorem wv (i : Str) (F : Str → Prop) : xA (.str i) F = F i := propext ⟨fun ⟨_, e, h⟩ => by cases e; exact h, fun h => ⟨i, rfl, h⟩⟩
@[simp] theorem vO {T U : ET} : jJ T U m σ Q = T m σ fun v σ₁ => U m σ₁ fun u σ₂ => uL v fun i => xm [(i, u)] σ₂ Q := rfl
@[simp] theorem uN {T : ET} : ku T m σ Q = T m σ fun v σ₁ => listRev v σ₁ Q := rfl
theorem sg {a : Addr} {xs : List V} (h : σ a = some (.list xs)) (q : dc xs.reverse σ Q) : listRev (.ref a) σ Q := ⟨a, xs, rfl, h, q⟩
@[simp] theorem xB {L : LT} : sT L m σ J = L m σ fun vs σ' => p7 vs σ' J := rfl
@[simp] theorem yI {a b c : Int} : p7 [.int a, .int b, .int c] σ J = ((b = -1 ∧ c = -1 ∧ 0 ≤ a ∧ a < 1000000) ∧ J (lA a) (fun _ => True) σ) := rfl
theorem lm {a : Addr} {kvs : List (Int × V)} {ep : Nat} {x : Int} {v : V} {R : ai → Prop} (h : σ a = some (.idict kvs ep)) (hz : kvs.length < 16777216) (q : ∀ ep', R (aZ σ a (.idict (cj kvs x v) ep'))) : tN (.ref a) (.int x) v σ R := ⟨kvs, ep, h, hz, q⟩
theorem og {a : Addr} {kvs : List (Int × V)} {ep : Nat} {x : Int} (h : σ a = some (.idict kvs ep)) (q : Q (.bool (b9 kvs x).isSome) σ) : qv (.int x) (.ref a) σ Q := ⟨kvs, ep, h, q⟩
theorem nW {a : Addr} {kvs : List (Int × V)} {ep : Nat} {x : Int} (h : σ a = some (.idict kvs ep)) (q : Q (.bool (!(b9 kvs x).isSome)) σ) : j3 (.int x) (.ref a) σ Q := ⟨kvs, ep, h, q⟩
theorem pQ {a : Addr} {kvs : List (Int × V)} {ep : Nat} {x : Int} {v : V} (h : σ a = some (.idict kvs ep)) (hv : b9 kvs x = some v) (q : Q v σ) : ip (.ref a) (.int x) σ Q := ⟨kvs, ep, v, h, hv, q⟩
theorem sG {a : Addr} {ys : List Int} (h : σ a = some (.list (ys.map .int))) (hn : 0 < ys.length) (q : ∀ M, M ∈ ys → (∀ b, b ∈ ys → b ≤ M) → Q (.int M) σ) : l5 [.ref a] σ Q := ⟨ys, h, hn, q⟩
end
theorem s6 {a : Int} {i : Nat} {v : V} (h : (lA a)[i]? = some v) : i < (a + 1).toNat ∧ v = .int (a - i) := by
 unfold lA at h
 rw [List.getElem?_map] at h
 obtain ⟨j, hj, rfl⟩ := Option.map_eq_some_iff.mp h
 obtain ⟨h1, h2⟩ := List.getElem?_eq_some_iff.mp hj
 simp at h1 h2
 subst h2
 exact ⟨by omega, rfl⟩
theorem s5 (a : Int) : (lA a).length = (a + 1).toNat := by simp [lA]
theorem oh (kvs : List (Int × V)) (x : Int) : (b9 kvs x).isSome = decide (x ∈ kvs.map (·.1)) := by
 unfold b9
 rw [Option.isSome_map, Bool.eq_iff_iff, List.find?_isSome]
 simp
theorem cM (kvs : List (Int × V)) (k : Int) (v : V) : ∀ x, x ∈ (cj kvs k v).map (·.1) ↔ x = k ∨ x ∈ kvs.map (·.1) := by
 intro x
 unfold cj
 split
 ·rename_i h
  have e : (kvs.map fun kv => if kv.1 = k then (kv.1, v) else kv).map (·.1) = kvs.map (·.1) := by
   rw [List.map_map]; apply List.map_congr_left; intro q _; simp only [Function.comp]; split <;> rfl
  rw [e]
  have hk : k ∈ kvs.map (·.1) := by
   obtain ⟨q, hq, e⟩ := List.any_eq_true.mp h
   exact List.mem_map.mpr ⟨q, hq, by simpa using e⟩
  constructor
  ·exact .inr
  ·rintro (rfl | h)
   ·exact hk
   ·exact h
 ·simp only [List.map_append, List.mem_append, List.map_cons, List.map_nil, List.mem_singleton]
  constructor
  ·rintro (h | h)
   ·exact .inr h
   ·exact .inl h
  ·rintro (h | h)
   ·exact .inr h
   ·exact .inl h
theorem k9 {kvs : List (Int × V)} {k : Int} {v : V} (h : (kvs.map (·.1)).Nodup) : ((cj kvs k v).map (·.1)).Nodup := by
 unfold cj
 split
 ·have e : (kvs.map fun kv => if kv.1 = k then (kv.1, v) else kv).map (·.1) = kvs.map (·.1) := by
   rw [List.map_map]; apply List.map_congr_left; intro q _; simp only [Function.comp]; split <;> rfl
  rw [e]; exact h
 ·rename_i hn
  rw [List.map_append, List.nodup_append]
  refine ⟨h, by simp, ?_⟩
  intro a ha b hb
  simp at hb
  subst hb
  rintro rfl
  obtain ⟨q, hq, e⟩ := List.mem_map.mp ha
  exact hn (List.any_eq_true.mpr ⟨q, hq, by simpa using e⟩)
theorem fQ (kvs : List (Int × V)) (k : Int) (v : V) (x : Int) : b9 (cj kvs k v) x = if x = k then some v else b9 kvs x := by
 unfold cj
 split
 ·rename_i h
  induction kvs with
  | nil => simp at h
  | cons q r ih =>
   unfold b9
   simp only [List.map_cons]
   by_cases hq : q.1 = k
   ·rw [if_pos hq]
    by_cases hx : x = k
    ·rw [if_pos hx, List.find?_cons_of_pos (by simp [hq, hx])]; rfl
    ·rw [if_neg hx, List.find?_cons_of_neg (by simp; intro e; exact hx (e ▸ hq)), List.find?_cons_of_neg (by simp; intro e; exact hx (e ▸ hq))]
     clear ih h
     induction r with
     | nil => rfl
     | cons q' r' ih' =>
      simp only [List.map_cons]
      by_cases hq' : q'.1 = k
      ·rw [if_pos hq', List.find?_cons_of_neg (by simp; intro e; exact hx (e ▸ hq')), List.find?_cons_of_neg (by simp; intro e; exact hx (e ▸ hq'))]; exact ih'
      ·rw [if_neg hq']
       by_cases hx' : q'.1 = x
       ·rw [List.find?_cons_of_pos (by simp [hx']), List.find?_cons_of_pos (by simp [hx'])]
       ·rw [List.find?_cons_of_neg (by simp [hx']), List.find?_cons_of_neg (by simp [hx'])]; exact ih'
   ·rw [if_neg hq]
    have hr : (r.any fun kv => decide (kv.1 = k)) = true := by
     simp only [List.any_cons, Bool.or_eq_true, decide_eq_true_eq] at h
     rcases h with h | h
     ·exact absurd h hq
     ·exact h
    have := ih hr
    unfold b9 at this
    by_cases hx : q.1 = x
    ·rw [List.find?_cons_of_pos (by simp [hx]), List.find?_cons_of_pos (by simp [hx]), if_neg (by intro e; exact hq (hx.trans e))]
    ·rw [List.find?_cons_of_neg (by simp [hx]), List.find?_cons_of_neg (by simp [hx])]; exact this
 ·rename_i h
  unfold b9
  rw [List.find?_append]
  by_cases hx : x = k
  ·subst hx
   rw [if_pos rfl]
   have : kvs.find? (fun kv => decide (kv.1 = x)) = none := by
    rw [List.find?_eq_none]
    intro q hq e
    exact h (List.any_eq_true.mpr ⟨q, hq, e⟩)
   rw [this]; simp
  ·rw [if_neg hx]
   have : List.find? (fun kv => decide (kv.1 = x)) [(k, v)] = none := by simp; intro e; exact hx e.symm
   rw [this]; simp
end Mine
end
noncomputable section
set_option maxRecDepth 100000
namespace Mine
open PySem PySem.W PyProof.Rows PySem.Calls
section
variable {C : Cx} {p : Program} {sc : Scope} {k : Nat}
noncomputable def sp : O1 := fun v σ Q => isB v fun b => Q (.bool (!b)) σ
theorem vn : yN C k (unaryOp .Not) sp := by
 intro A s σ a wa Q P E ao R va q hP
 obtain ⟨b, rfl, q⟩ := isB.elim q
 cases va
 exact PyProof.Rows.not_of (wpAny_truthy_bool (hP _ _ σ s (.bool _) R Step.refl q))
noncomputable def ma : O2 := fun a b σ Q => isR a fun l => isI b fun n => ∃ v, σ l = some (.list [v]) ∧ 0 ≤ n ∧ n ≤ 1000 ∧ dc (List.replicate n.toNat v) σ Q
theorem nP (w : Value) : ∀ (n : Nat) (acc : Array Value), List.foldl (fun x y => x ++ y) acc (List.replicate n #[w]) = (acc.toList ++ List.replicate n w).toArray
 | 0, acc => by simp
 | n + 1, acc => by
  rw [List.replicate_succ, List.foldl_cons, nP w n]
  simp [List.replicate_succ]
theorem nQ {aS : Addr} {h : Heap} {v : V} {w : Value} (hv : VRel aS h v w) : ∀ n : Nat, VRels aS h (List.replicate n v) (List.replicate n w)
 | 0 => .nil
 | n + 1 => .cons hv (nQ hv n)
theorem qA : gQ C k (binaryOp .Mult) ma := by
 intro A s σ a b wa wb Q P E ao R va vb q hP
 obtain ⟨l, rfl, q⟩ := isR.elim q
 obtain ⟨n, rfl, v, hx, h0, h1, q⟩ := isI.elim q
 cases va; cases vb with | int n u =>
 obtain ⟨m, rfl⟩ := Int.eq_ofNat_of_zero_le h0
 have hm : m ≤ 1000 := Int.ofNat_le.mp h1
 obtain ⟨hz, ws, ⟨c, hl⟩, hv⟩ := R.view _ _ hx
 obtain ⟨w, rfl, hw⟩ := hv.inv1
 have hn := bV s.heap
 refine wpAny_binaryOp_repeat_ref (T := "list") (U := "int") (by decide) ⟨_, hl, rfl⟩ (fun s' => typeIs_int s' _ u) noFill_list_mul F.fills_int_mul F.slot_int_rmul repeat_list F.slot_int_index.lookup
  (call_meets F.slot_int_rmul (typeIs_int s _ u) F.entry_int_rmul (F.args_int_rmul_2 _ _) (int___rmul___int_list _ u l _ c)
   ⟨hl, rfl, ⟨_, hl, rfl⟩, call_meets F.slot_list_mul ⟨_, hl, rfl⟩ F.entry_list_mul (F.args_list_mul_2 _ _)
    (AutoListH.list___mul___list_int_3 l _ c _ u ?_ ?_ ?_) ⟨hl, ?_⟩⟩)
 ·simp [Builtin.List.listFitsIndex]; omega
 ·have e : (#[w] : Array Value).size * ((m : Nat) : Int).toNat = m := by simp
  rw [e]; omega
 ·simp [Builtin.List.listTooLong, sizeLine]; omega
 ·refine hP (.ref s.heap.objs.size) _ (aZ σ s.heap.objs.size (.list (List.replicate m v))) _ (.ref _) (R.add (tk := s.toks) aX hn ⟨by rw [List.length_replicate]; exact Nat.le_trans hm (by decide), List.replicate m w, ⟨0, ?_⟩, (nQ hw m).keep fun _ _ e _ => aX _ _ e⟩) .addPush (q _ (R.freshNone hn))
  have e : (List.replicate m w).toArray = List.foldl (fun x y => x ++ y) #[] (List.replicate m #[w]) := (nP w m #[]).symm
  rw [e]
  exact Heap.get?_push_size _ rfl
theorem uO {prog : Program} {w : World} {A : Around} {E : Value → Shared → Prop} {it l : Addr} {items : List Value} (hne : l ≠ it) : ∀ (r : List Value) (i : Nat) (s : Shared) (Q : List Value → Shared → Prop), items.drop i = r → i ≤ items.length → s.heap.IsListIter it l i → s.heap.IsList l items.toArray →
  (∀ h', h'.IsListIter it l items.length → Heap.SameBut it s.heap h' → Q r { s with heap := h' }) → wpAny (PySem.model prog w) A (draw (.ref it) r.length) Q E s
 | [], i, s, Q, e, hi, h1, h2, hQ => by
  cases kw e hi
  exact wpAny_pure (hQ s.heap h1 (Heap.SameBut.refl ..))
 | x :: r, i, s, Q, e, hi, h1, h2, hQ => by
  have hlt := mP e
  show wpAny _ _ (pyNext (.ref it) >>= _) Q E s
  have e0 := congrArg (·[0]?) e
  have e1 : items.drop (i + 1) = r := by have := congrArg List.tail e; rwa [List.tail_drop] at this
  refine wpAny_bind (wpAny_pyNext_list_item h1 h2 (x := x) (by simpa using e0) fun h₁ i₁ s₁ => ?_)
  exact wpAny_bind (wpAny_holding (uO hne r (i + 1) _ _ e1 hlt i₁ (h2.extBut s₁.extBut hne) fun h₂ i₂ s₂ => wpAny_pure (hQ h₂ i₂ (s₁.trans s₂))))
theorem ur {prog : Program} {w : World} {A : Around} {E : Value → Shared → Prop} {s : Shared} {env : Env} {elts : List Expr} {x1 : Nat} {pos : Pos} {t : Addr} {items : List Value} {Q : Unit → Shared → Prop} (hh : A.handled = none) (ht : s.heap.IsList t items.toArray)
  (hn : (assignEach elts env).length = items.length) (hstar : (assignEach elts env).findIdx? (·.1) = none)
  (h : ∀ h', Heap.ExtBut s.heap.objs.size s.heap h' → wpAny (PySem.model prog w) A (assignInOrder ((assignEach elts env).map (·.2)) items) Q E { s with heap := h' }) :
  wpAny (PySem.model prog w) A (assign (.Tuple elts x1 pos) env (.ref t)) Q E s := by
 rw [arm_assign_Tuple]
 refine wpAny_bind (wpAny_standAt ?_)
 unfold unpack
 rw [hn, hstar]
 refine wpAny_bind (wpAny_holding ?_)
 have hlt : t ≠ s.heap.objs.size := by obtain ⟨o, ho, _⟩ := ht; exact Nat.ne_of_lt (Heap.lt_size ho)
 unfold unpackItems
 refine wpAny_bind ?_
 unfold notIterableAtAll
 refine wpAny_bind (wpAny_specialOf ht.typeIs slot_list_iter.lookup ?_)
 refine wpAny_pure ?_
 simp only [Bool.false_eq_true, if_false]
 refine wpAny_bind (wpAny_holding (wpAny_pyIter_list ht ?_))
 refine wpAny_bind (wpAny_holding (uO hlt items 0 _ _ List.drop_zero (Nat.zero_le _) ⟨_, Heap.get?_push_size _ rfl, rfl, rfl⟩ (ht.push _) fun h₁ i₁ s₁ => ?_))
 rw [if_neg (Nat.lt_irrefl _)]
 refine wpAny_bind (wpAny_holding (wpAny_pyNext_list_end hh i₁ ((ht.push _).extBut s₁.extBut hlt) (by simp) fun h₂ he₂ => ?_))
 simp only [Option.isSome_none, Bool.false_eq_true, if_false]
 exact wpAny_pure (h h₂ fun b o hb e => he₂ b o hb (s₁.extBut b o hb (Heap.get?_push_of_some _ e)))
noncomputable def pJ (xs : List String) (T : ET) : ST := fun m σ Q => T m σ fun v σ' => isR v fun a => ∃ vs, σ' a = some (.list vs) ∧ xs.length = vs.length ∧ Q .next (aF xs vs m) σ'
theorem rP (hz : C.held = Option.none) {l : List (String × Pos)} {n : Nat} {p pos : Pos} {value : Expr} {T : ET} (hx : ∀ x ∈ l, sc.names.lookup (Str.ofString x.1) = some .local) (he : HE C sc k value T)
  (hs : ∀ env, EnvOk env sc → swapsWithSole [.Tuple (cr l) n p] value pos.line env = pure false) (hw : ∀ env, EnvOk env sc → swappedStores [.Tuple (cr l) n p] value env = pure Option.none) : HS1 C sc k (.Assign [.Tuple (cr l) n p] value pos) (pJ (l.map (·.1)) T) := by
 refine ⟨?_⟩; intro env A s m σ Q P E en ao R F q hP
 refine Assign_Tuple (he.run env A s m σ _ _ E en ao R F q fun v w σ₁ s₁ hv R₁ S₁ q₁ => ?_) (hs env en) (hw env en)
 obtain ⟨a, rfl, vs, hx', hlen, q₁⟩ := isR.elim q₁
 cases hv
 obtain ⟨hz', ws, h1, h2⟩ := R₁.view _ _ hx'
 have hlen' : l.length = vs.length := by simpa using hlen
 refine bv (ur (ao.none hz) h1.isList (by rw [(eG env _).1, ← h2.length, hlen']) (eG env _).2 fun h' hx'' => ?_)
 have keep : ∀ b o, s₁.heap.get? b = some o → h'.get? b = some o := fun b o e => hx'' b o (Nat.ne_of_lt (Heap.lt_size e)) e
 refine ji en l vs ws _ m σ₁ _ hlen' hx (R₁.grow (tk := s₁.toks) keep) ((F.step R S₁).grow keep) (h2.keep fun b o e _ => keep b o e) fun s₂ R₂ F₂ S₂ hsz => ?_
 exact hP .next .next _ σ₁ s₂ .next R₂ F₂ ((S₁.own).trans ⟨fun b o e n q => S₂.keepL b o (keep b o e) n fun z => q (.inl z), hsz, fun _ a b => absurd a b⟩) q₁
end
end Mine
end
noncomputable section
set_option maxRecDepth 100000
namespace Mine
open PySem PySem.W PyProof.Rows PySem.Calls
noncomputable def sS : KeyOrd where
 α := Int
 blt := fun a b => decide (a < b)
 irrefl := fun a => decide_eq_false (Int.lt_irrefl a)
 trans := fun a b c h1 h2 => decide_eq_true (Int.lt_trans (of_decide_eq_true h1) (of_decide_eq_true h2))
 negTrans := fun a b c h => (Int.lt_or_le a b).elim (fun z => .inl (decide_eq_true z)) fun z => .inr (decide_eq_true (Int.lt_of_le_of_lt z (of_decide_eq_true h)))
 total := fun a b h1 h2 => Int.le_antisymm (Int.not_lt.mp (of_decide_eq_false h2)) (Int.not_lt.mp (of_decide_eq_false h1))
section
variable {prog : Program} {w : World} {A : Around} {E : Value → Shared → Prop} {s : Shared}
theorem t5 {a₀ : Array Keyed} (h0 : ∀ x ∈ a₀.toList, ∃ n t, x.1 = .int n t) : eV prog w A E s oneType' sS (fun p => numOf p.1) a₀ := by
 intro x y hx hy Q st hk h
 obtain ⟨n, t, ex⟩ := h0 x hx
 obtain ⟨m, u, ey⟩ := h0 y hy
 dsimp only at h
 rw [ex, ey] at h
 rw [lt'_eq]
 refine cI ?_
 rw [hk, keyLt'_oneType, ex, ey]
 refine wpS_bind (wpS_lift (wpAny_attempt (oneLt_int ⟨rfl, ?_⟩)))
 exact wpS_pure h
theorem q6 {a : Addr} {vs : List Value} {ss : List Int} {n : Nat} {P : PySem.Fin → Shared → Prop} (ho : s.heap.get? a = some (seqObj "list" vs.toArray n)) (hz : vs.length ≤ 16777216) (hS : IntsAre vs ss)
  (h : ∀ (out : List Value) (ss' : List Int), IntsAre out ss' → ss'.Perm ss → ss'.Pairwise (· ≤ ·) → P (.done (.ret .none)) { s with heap := sortedHeap s.heap a vs out.toArray }) :
  wpAny (model prog w) A (Builtin.«list.sort» ⟨[.ref a], []⟩) P E s := by
 refine qk (kd := oneType') (O := sS) (key := fun p => numOf p.1) ho hz (fun h2 s' _ Q q => ?_) (fun s' _ => t5 hS.intKeys) fun out hp hs => ?_
 ·match vs, h2, hS with
  | v₁ :: v₂ :: rest, _, hS => rw [keyKind_ints hS]; exact wpAny_pure q
 ·refine h out (out.map numOf) (intsAre_map out fun v hv => hS.all v (hp.mem_iff.mp hv)) ?_ ?_
  ·rw [← hS.nums]; exact hp.map _
  ·rw [List.pairwise_map]
   refine hs.imp_of_mem fun {x y} hx hy hxy => ?_
   have : decide (numOf y < numOf x) = false := hxy
   exact Int.not_lt.mp (of_decide_eq_false this)
end
section
variable {C : Cx} {p : Program} {sc : Scope} {k : Nat}
theorem l6 {A : Around} {s : Shared} {σ : ai} {r : Value} {Q : V → ai → Prop} {P : Value → Shared → Prop} {E : Value → Shared → Prop} {ks : List Int} (ao : AOk C A k) (R : RelG C σ s)
  (hcol : ∀ R' : List Value → Shared → Prop, (∀ (h' : Heap) (tk : Nat) (d : Drawn) (vs : List Value) (ks' : List Int), (∀ b o, s.heap.get? b = some o → h'.get? b = some o) → s.heap.objs.size ≤ h'.objs.size → IntsAre vs ks' → ks'.Perm ks → R' vs { s with heap := h', toks := tk, drawn := d }) →
   wpAny (model C.prog C.w) A.in1 (collect r) R' E s) (hz : ks.length ≤ 16777216)
  (q : dc ((my ks).map .int) σ Q) (hP : uC C σ s Q P) : wpAny (model C.prog C.w) A (PySem.call (.builtin "sorted") [r]) P E s := by
 refine call_function_entry kind_sorted plain_sorted entry_sorted (args_sorted1 _) ?_
 unfold Builtin.«sorted»
 refine wpAny_bind (m := checkCount "sorted" 1 1 _) (wpAny_pure ?_)
 refine wpAny_bind (hcol _ fun h' tk d vs ks' hk hsz hs hp => ?_)
 have hvl : vs.length = ks.length := by rw [← hp.length_eq, oe hs]
 refine wpAny_bind (wpAny_newList ?_ (by rw [hvl, sizeLine_eq]; exact hz))
 have hoL : (h'.push (seqObj "list" vs.toArray 0)).get? h'.objs.size = some (seqObj "list" vs.toArray 0) := Heap.get?_push_size _ rfl
 refine wpAny_bind (wpAny_holding (wpAny_call_entry slot_list_sort ⟨_, hoL, rfl⟩ entry_list_sort (q6 hoL (by rw [hvl]; exact hz) hs fun out ss' h1 h2 h3 => ⟨_, rfl, ?_⟩) (args_list_sort _)))
 refine wpAny_pure ⟨_, rfl, ?_⟩
 have hsr : ss' = my ks := fe ((h2.trans hp).trans (gp ks).symm) h3 (jg ks)
 subst hsr
 obtain ⟨e, he⟩ := sortedHeap_at (out := out.toArray) hoL
 have hk2 : ∀ b o, s.heap.get? b = some o → (sortedHeap (h'.push (seqObj "list" vs.toArray 0)) h'.objs.size vs out.toArray).get? b = some o := fun b o eb => by
  have hb := Heap.lt_size (hk b o eb)
  rw [sortedHeap_old (Nat.ne_of_lt hb) (by rw [Heap.size_push]; exact Nat.lt_succ_of_lt hb)]
  exact Heap.get?_push_of_some _ (hk b o eb)
 have hn : s.heap.get? h'.objs.size = Option.none := aI hsz
 have hsz2 : s.heap.objs.size ≤ (sortedHeap (h'.push (seqObj "list" vs.toArray 0)) h'.objs.size vs out.toArray).objs.size := Nat.le_trans hsz (Nat.le_of_lt (Heap.lt_size he))
 exact hP (.ref h'.objs.size) (.ref h'.objs.size) (aZ σ h'.objs.size (.list ((my ks).map .int))) _ (.ref _)
  ((R.draw d).add (tk := tk) (s := { s with drawn := d }) hk2 hn ⟨by rw [List.length_map, (gp ks).length_eq]; exact hz, out, ⟨e, he⟩, oa h1⟩) (.add hk2 hsz2 hsz) (q _ (R.freshNone hn))
noncomputable def pE (v : V) (σ : ai) (Q : V → ai → Prop) : Prop := isR v fun a => ∃ kvs ep, σ a = some (.idict kvs ep) ∧ dc ((my (kvs.map (·.1))).map .int) σ Q
noncomputable def mO (T : ET) : ET := fun m σ Q => T m σ fun v σ₁ => pE v σ₁ Q
theorem kY (G : Gl C p) (hpl : C.held = Option.none) {np pos ap cp : Pos} {o : Expr} {T : ET} (hn : sc.names.lookup (Str.ofString "sorted") = some .globalImplicit) (ho : HE C sc k o T)
  (hbase : ∀ env, attributeBase o (Str.ofString "keys") env (eval o env) = eval o env) (hline : (ap.endLine == cp.line) = true) :
  HE C sc k (.Call (.Name (Str.ofString "sorted") np) [.Call (.Attribute o (Str.ofString "keys") ap) [] [] cp] [] pos) (mO T) := by
 refine ⟨?_⟩; intro env A s m σ Q P E en ao R F q hP
 have O := G.ok
 refine wpAny_Call_NameR (Calls.Name_function_global en.k (en.of hn) (Calls.loadGlobal_builtin (mg := C.mg) (mb := C.mb) (by rw [en.globals]; exact O.g.keeps R.base) (G.free _ (by decide)) (by rw [en.builtins]; exact O.b.keeps R.base) (G.blt i3 (by decide)) ?_) rfl)
 refine Calls.callWith_builtin (bp rfl) (bE rfl ?_)
 show wpAny _ A (spliced ((false, eval (.Call (.Attribute o (Str.ofString "keys") ap) [] [] cp) env) :: backTo pos (starEach [] env))) _ E s
 refine Calls.spliced_cons ?_
 refine wpAny_Call_method (T := "dict") (id := "dict.keys") (hbase env) rfl hline _root_.PySem.F.plainAttrs_dict _root_.PySem.F.slot_dict_keys _root_.PySem.F.type_dict_keys ?_
 refine ho.run env A s m σ _ _ E en ao R F q fun v w σ₁ s₁ hv R₁ S₁ q₁ => ?_
 obtain ⟨a, rfl, kvs, ep, hx, q₁⟩ := isR.elim q₁
 cases hv
 obtain ⟨hz, kws, h1, h2⟩ := R₁.view _ _ hx
 refine ⟨h1.dictOf.typeIs, h1.dictOf.mapOf.noDict, ?_⟩
 show wpAny _ _ (callWith cp (.builtin "dict.keys") [.ref a] [] []) _ E s₁
 refine method_meetsIn _root_.PySem.F.slot_dict_keys _root_.PySem.F.entry_dict_keys rfl (PySem.evalArgs_none ⟨rfl, h1.dictOf.typeIs, _root_.PySem.F.args_dict_keys_1 _, _, kdl_meets_keys (intKind C.prog C.w) a (O.noMods (R₁.apart a (by rw [hx]; simp))), ⟨kws, h1.dictOf⟩, ?_⟩)
 refine Calls.spliced_nil ?_
 show wpAny _ A (PySem.call (.builtin "sorted") [.ref s₁.heap.objs.size]) P E _
 have hl := h2.length
 have R₂ : RelG C σ₁ { s₁ with heap := s₁.heap.push { cls := .type "dict_keys", data := .fields #[.ref a] } } := R₁.grow (tk := s₁.toks) aX
 refine l6 (ks := kvs.map (·.1)) ao R₂ (fun R' hR => bv (kdu_collect (kdl_keys (knd := intKind C.prog C.w) (kvs := kws) (ep := ep) (r := s₁.heap.objs.size) (d := a)) (by show A.handled = _; exact ao.none hpl)
  ⟨⟨_, Heap.get?_push_size _ rfl, rfl, rfl⟩, h1.push _⟩ (kdl_size (by omega)) fun h' tk acc hk hacc => ?_)) (by simpa using hz) q₁ fun v w σ' s' hv' R' S' q' => hP v w σ' s' hv' R' ((S₁.trans .push).trans S') q'
 intro hsz
 exact hR h' tk s₁.drawn acc.toList _ hk hsz (ru h2 (by rw [Array.length_toList]; exact hacc.1) fun j v e => hacc.2 j v (by rw [← Array.getElem?_toList]; exact e)) (List.Perm.refl _)
end
section
variable {m : bg} {σ : ai} {Q : V → ai → Prop} {R : Fl → bg → ai → Prop}
@[simp] theorem vM {T : ET} : mO T m σ Q = T m σ fun v σ₁ => pE v σ₁ Q := rfl
theorem nM {a : Addr} {kvs : List (Int × V)} {ep : Nat} (h : σ a = some (.idict kvs ep)) (q : dc ((my (kvs.map (·.1))).map .int) σ Q) : pE (.ref a) σ Q := ⟨kvs, ep, h, q⟩
@[simp] theorem xj {b : Bool} : sp (.bool b) σ Q = Q (.bool (!b)) σ := rfl
theorem nZ {a : Addr} {v : V} {n : Int} (h : σ a = some (.list [v])) (h0 : 0 ≤ n) (h1 : n ≤ 1000) (q : dc (List.replicate n.toNat v) σ Q) : ma (.ref a) (.int n) σ Q := ⟨v, h, h0, h1, q⟩
@[simp] theorem wm {xs : List String} {T : ET} : pJ xs T m σ R = T m σ fun v σ' => isR v fun a => ∃ vs, σ' a = some (.list vs) ∧ xs.length = vs.length ∧ R .next (aF xs vs m) σ' := rfl
end
end Mine
end
noncomputable section
namespace Mine
open PySem PySem.W PyProof.Rows PySem.Calls
inductive Same2 (F : V → V → Prop) : List V → List V → Prop
 | nil : Same2 F [] []
 | cons {a b : V} {xs ys : List V} (h : F a b) (r : Same2 F xs ys) : Same2 F (a :: xs) (b :: ys)
noncomputable def lp (a b : V) : Prop := ∃ i, a = .int i ∧ b = .int i
noncomputable def ln (σ : ai) (F : V → V → Prop) (a b : V) : Prop := ∃ p q xs ys, a = .ref p ∧ b = .ref q ∧ σ p = some (.list xs) ∧ σ q = some (.list ys) ∧ Same2 F xs ys
theorem mY : ∀ (l : List Nat), l.all (fun _ => true) = true
 | [] => rfl
 | _ :: r => mY r
section
variable {C : Cx} {sc : Scope} {k : Nat} {A : Around} {s : Shared} {σ : ai}
noncomputable def rS (C : Cx) (A : Around) (s : Shared) (F : V → V → Prop) : Prop := ∀ a b wa wb, F a b → VRel C.aS s.heap a wa → VRel C.aS s.heap b wb → SeqAt.EqAt A s wa wb true
theorem vJ {F : V → V → Prop} (hF : rS C A s F) {xs ys : List V} {ws us : List Value} (h : Same2 F xs ys) : VRels C.aS s.heap xs ws → VRels C.aS s.heap ys us → ws.length = us.length ∧ ∀ (j : Nat) w u, ws[j]? = some w → us[j]? = some u → SeqAt.EqAt A s w u true := by
 induction h generalizing ws us with
 | nil => intro r1 r2; rw [r1.inv0, r2.inv0]; exact ⟨rfl, fun j w u h => nomatch h⟩
 | cons h r ih =>
  intro r1 r2
  obtain ⟨w, ws, rfl, v1, r1⟩ := r1.invC
  obtain ⟨u, us, rfl, v2, r2⟩ := r2.invC
  obtain ⟨e, ih⟩ := ih r1 r2
  refine ⟨congrArg (· + 1) e, fun j w' u' h1 h2 => ?_⟩
  cases j with
  | zero => cases h1; cases h2; exact hF _ _ _ _ h v1 v2
  | succ j => exact ih j w' u' h1 h2
theorem mK {F : V → V → Prop} (hF : rS C A s F) {xs ys : List V} {ws us : List Value} (h : Same2 F xs ys) (r1 : VRels C.aS s.heap xs ws) (r2 : VRels C.aS s.heap ys us) : ws.toArray.size = us.toArray.size ∧ ∀ j (h1 : j < ws.toArray.size) (h2 : j < us.toArray.size), SeqAt.EqAt A s ws.toArray[j] us.toArray[j] ((fun _ => true) j) := by
 obtain ⟨e, he⟩ := vJ hF h r1 r2
 exact ⟨e, fun j h1 h2 => he j _ _ (List.getElem?_eq_getElem h1) (List.getElem?_eq_getElem h2)⟩
theorem p5 : rS C A s lp := by
 rintro a b wa wb ⟨i, rfl, rfl⟩ va vb
 obtain ⟨t, rfl⟩ := va.invInt
 obtain ⟨u, rfl⟩ := vb.invInt
 have := SeqAt.EqAt.int_int (A := A) (s := s) i t i u
 rwa [beq_self_eq_true] at this
theorem vL (R : RelG C σ s) {F : V → V → Prop} (hF : rS C A.in1 s F) (hu : A.units < cLine) : rS C A s (ln σ F) := by
 rintro a b wa wb ⟨p, q, xs, ys, rfl, rfl, hp, hq, h⟩ va vb
 cases va; cases vb
 by_cases e : p = q
 ·subst e; exact SeqAt.EqAt.same _
 ·obtain ⟨_, ws, h1, h2⟩ := R.view _ _ hp
  obtain ⟨_, us, h3, h4⟩ := R.view _ _ hq
  obtain ⟨e1, e2⟩ := mK hF h h2 h4
  have := SeqAt.RcAt.lists h1.isList h3.isList e1 hu e2
  rw [mY] at this
  exact SeqAt.EqAt.of_refs e this
noncomputable def jc : O2 := fun a b σ Q => (ln σ lp a b ∨ ln σ (ln σ lp) a b ∨ ∃ xs ys, a = .tup xs ∧ b = .tup ys ∧ Same2 lp xs ys) ∧ Q (.bool false) σ
theorem mj : gQ C k (compareOp .NotEq) jc := by
 intro A s σ a b wa wb Q P E ao R va vb q₀ hP
 obtain ⟨h, q⟩ := q₀
 have hu : A.units + 2 < cLine := Nat.lt_of_le_of_lt (Nat.add_le_add (Nat.le_add_right _ _) (by decide)) ao.units
 have u0 : A.units < cLine := Nat.lt_of_le_of_lt (Nat.le_add_right _ 2) hu
 have u1 : A.in1.units < cLine := Nat.lt_of_le_of_lt (Nat.le_succ _) hu
 have fin := hP _ _ σ s (.bool false) R Step.refl q
 have lists : ∀ {F : V → V → Prop}, rS C A.in1 s F → ln σ F a b → wpAny (model C.prog C.w) A (compareOp .NotEq wa wb) P E s := by
  rintro F hF ⟨p, q, xs, ys, rfl, rfl, hp, hq, h⟩
  cases va; cases vb
  obtain ⟨_, ws, h1, h2⟩ := R.view _ _ hp
  obtain ⟨_, us, h3, h4⟩ := R.view _ _ hq
  obtain ⟨e1, e2⟩ := mK hF h h2 h4
  have := SeqAt.RcNeAt.lists h1.isList h3.isList e1 u0 e2
  rw [mY] at this
  exact this C.prog C.w E P fin
 rcases h with h | h | ⟨xs, ys, rfl, rfl, h⟩
 ·exact lists p5 h
 ·exact lists (vL R p5 u1) h
 ·cases va with | @tup _ p ws ht hvs => cases vb with | @tup _ q us ht' hus =>
  obtain ⟨e1, e2⟩ := mK (A := A.in1) p5 h hvs hus
  have := SeqAt.RcNeAt.tuples ht ht' u0 e2
  rw [mY, e1, beq_self_eq_true] at this
  exact this C.prog C.w E P fin
end
section
variable {σ : ai} {Q : V → ai → Prop}
theorem iO : ∀ (xs : List Int), Same2 lp (xs.map V.int) (xs.map V.int)
 | [] => .nil
 | x :: r => .cons ⟨x, rfl, rfl⟩ (iO r)
theorem gi {a b : Addr} {xs : List Int} (ha : σ a = some (.list (xs.map .int))) (hb : σ b = some (.list (xs.map .int))) : ln σ lp (.ref a) (.ref b) := ⟨a, b, _, _, rfl, rfl, ha, hb, iO xs⟩
theorem nY {a b : Addr} {xs : List Int} (ha : σ a = some (.list (xs.map .int))) (hb : σ b = some (.list (xs.map .int))) (q : Q (.bool false) σ) : jc (.ref a) (.ref b) σ Q := ⟨.inl (gi ha hb), q⟩
theorem t3 (xs : List Int) (q : Q (.bool false) σ) : jc (.tup (xs.map V.int)) (.tup (xs.map V.int)) σ Q := ⟨.inr (.inr ⟨_, _, rfl, rfl, iO xs⟩), q⟩
end
end Mine
end
noncomputable section
set_option maxRecDepth 100000
set_option maxHeartbeats 0
namespace Mine
namespace Hd
noncomputable section
open PySem PySem.W PyProof.Rows PySem.Calls
theorem topGo_q : topGo = PySem.W.Fast.tw15667345088766844465 := PySem.W.Fast.te15667345088766844465
theorem segRun_q : segRun = PySem.W.Fast.tw14374325043358763698 := PySem.W.Fast.te14374325043358763698
theorem segRunT_q : segRunT = PySem.W.Fast.tw10110043849684766642 := PySem.W.Fast.te10110043849684766642
theorem topRun_q : topRun = PySem.W.Fast.tw14082659384304107361 := PySem.W.Fast.te14082659384304107361
theorem table_q : treeTable = PySem.W.Fast.tw14364793385576792824 := PySem.W.Fast.te14364793385576792824
theorem denote_q : denote = PySem.W.Fast.tw11892475500146522536 := PySem.W.Fast.te11892475500146522536
noncomputable def fA (l : List Stmt) (n : Nat) : Arguments := match l[n]? with | some (.FunctionDef _ a _ _ _ _ _ _ _ _) => a | _ => default
noncomputable def fB (l : List Stmt) (n : Nat) : List Stmt := match l[n]? with | some (.FunctionDef _ _ b _ _ _ _ _ _ _) => b | _ => []
noncomputable def fS (l : List Stmt) (n : Nat) : Scope := match l[n]? with | some (.FunctionDef _ _ _ _ _ _ s _ _ _) => s | _ => default
noncomputable def cB (l : List Stmt) (n : Nat) : List Stmt := match l[n]? with | some (.ClassDef _ _ _ b ..) => b | _ => []
noncomputable def cS (l : List Stmt) (n : Nat) : Scope := match l[n]? with | some (.ClassDef _ _ _ _ _ _ s ..) => s | _ => default
abbrev n : Value := .none
abbrev r (k : Nat) : Value := .ref k
abbrev s (x : Str) (k : Nat) : Value := .str x k
abbrev i (k m : Nat) : Value := .int (Int.ofNat k) m
abbrev z (k : Nat) : Value := .int (Int.ofNat k) 0
abbrev t (x : String) : Value := .type x
abbrev u (x : String) : Value := .builtin x
abbrev ps (a b c d : Nat) : Pos := Pos.mk a b c d
noncomputable def e (P : Params) (x : String) (k : Nat) (v : Value) : DictEntry := .mk (PyData.keyHash P x) (.str (Str.ofString x) k) v
noncomputable def O (x : String) (l : List Value) : Obj := .mk (.type x) none (.fields l.toArray) #[]
noncomputable def T (l : List Value) : Obj := .mk (.type "tuple") none (.seq l.toArray 0) #[]
noncomputable def E (l : List Value) : Obj := .mk .none none (.fields l.toArray) #[]
noncomputable def D (l : List DictEntry) (k : Nat) : Obj := .mk (.type "dict") none (.dict l.toArray k) #[]
noncomputable def K (x y : Str) (k l a f b : Nat) (g : Bool) (v0 v1 v2 v3 : Value) (m : Nat) : Obj := O "code" [s x k, s y (k + 1), s "/claim/cut.py" (k + 2), z l, z a, z 0, z 0, z f, r b, .bool g, z 181, r (b + 1), v0, v1, v2, v3, z m, z l, s "/claim/cut.py" (m + 1)]
noncomputable def G (x y : Str) (l : List Stmt) (k : Nat) : Obj := .mk .none none (.func (.mk x y (fA l k) (.stmts (fB l k)) (fS l k) 0 [] n n n n none n n 0)) #[]
noncomputable def F (x y : Str) (l : List Stmt) (k g : Nat) (v c : Value) : Obj := .mk (.type "function") none (.func (.mk x y (fA l k) (.stmts (fB l k)) (fS l k) g [] n n n v none c n 0)) #[]
noncomputable def M (a b c : Nat) (v : Value) : Obj := .mk (.type "frame") none .plain #[some (r a), some (r b), some (r c), none, some v, none, some (r 0)]
noncomputable def lfe : Life := (@Life.mk [] [] [] 0 [] [] false (@List.toArray @Nat []) [] 0 false false false (0 : Int) [(2000 : Int), (10 : Int), (10 : Int)] false 0 true [] [] 0 false)
noncomputable def dw : Drawn := Drawn.mk 0 0 0 0
noncomputable def ev (l : List Obj) : List Obj × List Obj := List.rec ([], []) (fun x _ ih => (x :: ih.2, ih.1)) l
noncomputable def bt (f : Nat) : List Obj → PySem.W.BT := Nat.rec (fun _ => .nil) (fun _ ih l => List.rec .nil (fun x t _ => .node x (ih (ev t).1) (ih (ev t).2)) l) f
abbrev pw : Program := PySem.Challenge.pw_uf050007_09
abbrev TB : List Stmt := pw.main.body
noncomputable def vw : Program := view pw [0, 2, 3, 4, 5, 6, 7, 8, 9, 11, 12, 13, 14, 15, 16, 17, 19, 20, 21, 22, 23, 24, 26, 27, 29, 31, 32, 33, 34, 35, 36, 37, 38, 39, 40, 41]
noncomputable def env : Env := { scope := pw.main.scope, locals := mainNs, globals := mainNs, cells := [], code := (.ref 13), frame := some 14 }
noncomputable def ann : Option Value := (some (.ref 6))
abbrev cE : Code := .body (behindTheImports pw) env
noncomputable def qq : Pos := (ps 0 0 0 0)
abbrev BB : List Frame := [topFrame qq]
abbrev s0 (w : World) (os : OsState) : Shared := Shared.mk (boot_heap w.params) (@Array.mk GenState []) boot_drawn boot_toks os
noncomputable def eo3 (P : Params) : List DictEntry := [(e P "__name__" 165 (s "law_uf050007_09" 587)), (e P "__doc__" 166 n), (e P "__package__" 167 n), (e P "__loader__" 168 (u "__main__.__loader__#opaque")), (e P "__spec__" 169 n), (e P "__annotations__" 170 (r 6)), (e P "__builtins__" 171 (r 4)), (e P "__file__" 173 (s "/claim/cut.py" 172)), (e P "__cached__" 174 n), (e P "_wall" 193 (r 21)), (e P "RoadError" 213 (r 31)), (e P "NoPath" 229 (r 44)), (e P "NoFile" 245 (r 56)), (e P "InTheWay" 261 (r 68)), (e P "NoClash" 277 (r 80)), (e P "Clashed" 293 (r 92)), (e P "NoVersion" 309 (r 104)), (e P "SameVersion" 325 (r 116)), (e P "SIGNS" 329 (s "abcdefghijklmnopqrstuvwxyzABCDEFGHIJKLMNOPQRSTUVWXYZ0123456789.-_" 328)), (e P "MOST_PARTS" 331 (i 8 330)), (e P "LONGEST_PART" 333 (i 12 332)), (e P "is_part" 341 (r 125)), (e P "is_path" 350 (r 132)), (e P "above" 356 (r 137)), (e P "is_beneath" 364 (r 144)), (e P "all_paths" 378 (r 151)), (e P "marks" 392 (r 158)), (e P "clashing" 398 (r 163)), (e P "standing" 411 (r 170)), (e P "clashes" 417 (r 175)), (e P "joined" 432 (r 182)), (e P "done" 445 (r 189)), (e P "changed" 455 (r 196)), (e P "Book" 586 (r 288)), (e P "_law_whole" 595 (r 299)), (e P "_law_cell_at" 603 (r 306)), (e P "_law_are_whole" 609 (r 311)), (e P "_law_elders_by" 615 (r 316)), (e P "_law_deed" 629 (r 323)), (e P "_law_is_road" 640 (r 330)), (e P "_law_came_of" 646 (r 335)), (e P "_law_nearest_holds" 652 (r 340)), (e P "_law_holds" 658 (r 345)), (e P "_law_asked" 670 (r 352)), (e P "law" 676 (r 357))]
noncomputable def o3_0 (P : Params) : Obj := D ((e P "__name__" 165 (s "threeroad.errors" 194)) :: ((eo3 P).drop 1).take 11) 12
noncomputable def o3_1 (P : Params) : Obj := D ((e P "__name__" 165 (s "threeroad.errors" 194)) :: ((eo3 P).drop 1).take 13) 14
noncomputable def o3_2 (P : Params) : Obj := D ((e P "__name__" 165 (s "threeroad.errors" 194)) :: ((eo3 P).drop 1).take 15) 16
noncomputable def o3_3 (P : Params) : Obj := D ((e P "__name__" 165 (s "threeroad.paths" 326)) :: ((eo3 P).drop 1).take 18) 19
noncomputable def o3_4 (P : Params) : Obj := D ((e P "__name__" 165 (s "threeroad.book" 456)) :: ((eo3 P).drop 1).take 32) 33
noncomputable def o3_5 (P : Params) : Obj := D ((e P "__name__" 165 (s "threeroad.book" 456)) :: ((eo3 P).drop 1).take 33) 34
noncomputable def o3_6 (P : Params) : Obj := D (eo3 P) 45
noncomputable def eo12 : List Value := [(z 1), (z 0), (r 20), (z 5), (z 0), (r 27), (z 7), (z 0), (r 40), (z 9), (z 0), (r 52), (z 11), (z 0), (r 64), (z 13), (z 0), (r 76), (z 15), (z 0), (r 88), (z 17), (z 0), (r 100), (z 19), (z 0), (r 112), (z 25), (z 0), (r 124), (z 32), (z 0), (r 131), (z 40), (z 0), (r 136), (z 43), (z 0), (r 143), (z 46), (z 0), (r 150), (z 52), (z 0), (r 157), (z 68), (z 0), (r 162), (z 70), (z 0), (r 169), (z 80), (z 0), (r 174), (z 88), (z 0), (r 181), (z 111), (z 0), (r 188), (z 126), (z 0), (r 195), (z 132), (z 0), (r 202), (z 202), (z 0), (r 298), (z 204), (z 0), (r 305), (z 208), (z 0), (r 310), (z 210), (z 0), (r 315), (z 219), (z 0), (r 322), (z 233), (z 0), (r 329), (z 242), (z 0), (r 334), (z 248), (z 0), (r 339), (z 257), (z 0), (r 344), (z 280), (z 0), (r 351), (z 283), (z 0), (r 356)]
noncomputable def o12_0 (P : Params) : Obj := E (eo12.take 0)
noncomputable def o12_1 (P : Params) : Obj := E (eo12.take 9)
noncomputable def o12_2 (P : Params) : Obj := E (eo12.take 15)
noncomputable def o12_3 (P : Params) : Obj := E (eo12.take 21)
noncomputable def o12_4 (P : Params) : Obj := E (eo12.take 27)
noncomputable def o12_5 (P : Params) : Obj := E (eo12.take 63)
noncomputable def o12_6 (P : Params) : Obj := E (eo12.take 66)
noncomputable def o12_7 (P : Params) : Obj := E (eo12.take 99)
noncomputable def o31_0 (P : Params) : Obj := (.mk (t "type") none (.cls (.mk "RoadError" [(t "ValueError")] [(r 31), (t "ValueError"), (t "Exception"), (t "BaseException"), (t "object")] 30 "RoadError" true [] [(r 44)] false none false)) (List.toArray [(some (r 22)), none, (some (s "RoadError" 196)), (some (s "RoadError" 204)), (some (u "ValueError.__new__")), (some (.bool true))]))
noncomputable def o31_1 (P : Params) : Obj := (.mk (t "type") none (.cls (.mk "RoadError" [(t "ValueError")] [(r 31), (t "ValueError"), (t "Exception"), (t "BaseException"), (t "object")] 30 "RoadError" true [] [(r 44), (r 56), (r 68)] false none false)) (List.toArray [(some (r 22)), none, (some (s "RoadError" 196)), (some (s "RoadError" 204)), (some (u "ValueError.__new__")), (some (.bool true))]))
noncomputable def o31_2 (P : Params) : Obj := (.mk (t "type") none (.cls (.mk "RoadError" [(t "ValueError")] [(r 31), (t "ValueError"), (t "Exception"), (t "BaseException"), (t "object")] 30 "RoadError" true [] [(r 44), (r 56), (r 68), (r 80), (r 92)] false none false)) (List.toArray [(some (r 22)), none, (some (s "RoadError" 196)), (some (s "RoadError" 204)), (some (u "ValueError.__new__")), (some (.bool true))]))
noncomputable def o31_3 (P : Params) : Obj := (.mk (t "type") none (.cls (.mk "RoadError" [(t "ValueError")] [(r 31), (t "ValueError"), (t "Exception"), (t "BaseException"), (t "object")] 30 "RoadError" true [] [(r 44), (r 56), (r 68), (r 80), (r 92), (r 104), (r 116)] false none false)) (List.toArray [(some (r 22)), none, (some (s "RoadError" 196)), (some (s "RoadError" 204)), (some (u "ValueError.__new__")), (some (.bool true))]))
noncomputable def lz (P : Params) : List Obj := [boot_o_0 P, boot_o_1 P, boot_o_2 P, o3_6 P, boot_o_4 P, boot_o_5 P, boot_o_6 P, boot_o_7 P, boot_o_8 P, boot_o_9 P, boot_o_10 P, T [], o12_7 P, K "<module>" "<module>" 182 1 0 0 11 false n n n n 185, M 13 3 3 (s "__main__" 164), T [], E [], T [(s "k" 190)], T [], G "_wall" "_wall" TB 0, K "_wall" "_wall" 187 1 1 3 15 true n (r 17) (r 18) (r 19) 191, F "_wall" "_wall" TB 0 3 (s "__main__" 164) (r 20), T [(t "ValueError")], O "builtin_function_or_method" [(u "type.__prepare__"), (t "type")], D [(e P "__module__" 203 (s "threeroad.errors" 194)), (e P "__qualname__" 205 (s "RoadError" 204)), (e P "__firstlineno__" 207 (i 5 206)), (e P "__static_attributes__" 208 (r 29))] 4, T [], E [], K "RoadError" "RoadError" 198 5 0 0 25 false n n n n 201, M 27 3 24 (s "threeroad.errors" 194), T [], D [(e P "__module__" 203 (s "threeroad.errors" 194)), (e P "__firstlineno__" 207 (i 5 206)), (e P "__static_attributes__" 208 (r 29)), (e P "__weakref__" 210 (r 32)), (e P "__doc__" 211 n)] 3, o31_3 P, O "getset_descriptor" [(s "__weakref__" 209), (r 31), (u "ExceptionGroup.__weakref__"), n], O "super" [(r 31), (r 31), (r 31)], O "builtin_function_or_method" [(u "object.__init_subclass__"), (r 31)], T [(r 31)], O "builtin_function_or_method" [(u "type.__prepare__"), (t "type")], D [(e P "__module__" 221 (s "threeroad.errors" 194)), (e P "__qualname__" 223 (s "NoPath" 222)), (e P "__firstlineno__" 225 (i 7 224)), (e P "__static_attributes__" 226 (r 42))] 4, T [], E [], K "NoPath" "NoPath" 216 7 0 0 38 false n n n n 219, M 40 3 37 (s "threeroad.errors" 194), T [], D [(e P "__module__" 221 (s "threeroad.errors" 194)), (e P "__firstlineno__" 225 (i 7 224)), (e P "__static_attributes__" 226 (r 42)), (e P "__doc__" 227 n)] 2, (.mk (t "type") none (.cls (.mk "NoPath" [(r 31)] [(r 44), (r 31), (t "ValueError"), (t "Exception"), (t "BaseException"), (t "object")] 43 "NoPath" true [] [] false none false)) (List.toArray [(some (r 35)), none, (some (s "NoPath" 214)), (some (s "NoPath" 222)), (some (u "ValueError.__new__")), (some (.bool true))])), O "super" [(r 44), (r 44), (r 44)], O "builtin_function_or_method" [(u "object.__init_subclass__"), (r 44)], T [(r 31)], O "builtin_function_or_method" [(u "type.__prepare__"), (t "type")], D [(e P "__module__" 237 (s "threeroad.errors" 194)), (e P "__qualname__" 239 (s "NoFile" 238)), (e P "__firstlineno__" 241 (i 9 240)), (e P "__static_attributes__" 242 (r 54))] 4, T [], E [], K "NoFile" "NoFile" 232 9 0 0 50 false n n n n 235, M 52 3 49 (s "threeroad.errors" 194), T [], D [(e P "__module__" 237 (s "threeroad.errors" 194)), (e P "__firstlineno__" 241 (i 9 240)), (e P "__static_attributes__" 242 (r 54)), (e P "__doc__" 243 n)] 2, (.mk (t "type") none (.cls (.mk "NoFile" [(r 31)] [(r 56), (r 31), (t "ValueError"), (t "Exception"), (t "BaseException"), (t "object")] 55 "NoFile" true [] [] false none false)) (List.toArray [(some (r 47)), none, (some (s "NoFile" 230)), (some (s "NoFile" 238)), (some (u "ValueError.__new__")), (some (.bool true))])), O "super" [(r 56), (r 56), (r 56)], O "builtin_function_or_method" [(u "object.__init_subclass__"), (r 56)], T [(r 31)], O "builtin_function_or_method" [(u "type.__prepare__"), (t "type")], D [(e P "__module__" 253 (s "threeroad.errors" 194)), (e P "__qualname__" 255 (s "InTheWay" 254)), (e P "__firstlineno__" 257 (i 11 256)), (e P "__static_attributes__" 258 (r 66))] 4, T [], E [], K "InTheWay" "InTheWay" 248 11 0 0 62 false n n n n 251, M 64 3 61 (s "threeroad.errors" 194), T [], D [(e P "__module__" 253 (s "threeroad.errors" 194)), (e P "__firstlineno__" 257 (i 11 256)), (e P "__static_attributes__" 258 (r 66)), (e P "__doc__" 259 n)] 2, (.mk (t "type") none (.cls (.mk "InTheWay" [(r 31)] [(r 68), (r 31), (t "ValueError"), (t "Exception"), (t "BaseException"), (t "object")] 67 "InTheWay" true [] [] false none false)) (List.toArray [(some (r 59)), none, (some (s "InTheWay" 246)), (some (s "InTheWay" 254)), (some (u "ValueError.__new__")), (some (.bool true))])), O "super" [(r 68), (r 68), (r 68)], O "builtin_function_or_method" [(u "object.__init_subclass__"), (r 68)], T [(r 31)], O "builtin_function_or_method" [(u "type.__prepare__"), (t "type")], D [(e P "__module__" 269 (s "threeroad.errors" 194)), (e P "__qualname__" 271 (s "NoClash" 270)), (e P "__firstlineno__" 273 (i 13 272)), (e P "__static_attributes__" 274 (r 78))] 4, T [], E [], K "NoClash" "NoClash" 264 13 0 0 74 false n n n n 267, M 76 3 73 (s "threeroad.errors" 194), T [], D [(e P "__module__" 269 (s "threeroad.errors" 194)), (e P "__firstlineno__" 273 (i 13 272)), (e P "__static_attributes__" 274 (r 78)), (e P "__doc__" 275 n)] 2, (.mk (t "type") none (.cls (.mk "NoClash" [(r 31)] [(r 80), (r 31), (t "ValueError"), (t "Exception"), (t "BaseException"), (t "object")] 79 "NoClash" true [] [] false none false)) (List.toArray [(some (r 71)), none, (some (s "NoClash" 262)), (some (s "NoClash" 270)), (some (u "ValueError.__new__")), (some (.bool true))])), O "super" [(r 80), (r 80), (r 80)], O "builtin_function_or_method" [(u "object.__init_subclass__"), (r 80)], T [(r 31)], O "builtin_function_or_method" [(u "type.__prepare__"), (t "type")], D [(e P "__module__" 285 (s "threeroad.errors" 194)), (e P "__qualname__" 287 (s "Clashed" 286)), (e P "__firstlineno__" 289 (i 15 288)), (e P "__static_attributes__" 290 (r 90))] 4, T [], E [], K "Clashed" "Clashed" 280 15 0 0 86 false n n n n 283, M 88 3 85 (s "threeroad.errors" 194), T [], D [(e P "__module__" 285 (s "threeroad.errors" 194)), (e P "__firstlineno__" 289 (i 15 288)), (e P "__static_attributes__" 290 (r 90)), (e P "__doc__" 291 n)] 2, (.mk (t "type") none (.cls (.mk "Clashed" [(r 31)] [(r 92), (r 31), (t "ValueError"), (t "Exception"), (t "BaseException"), (t "object")] 91 "Clashed" true [] [] false none false)) (List.toArray [(some (r 83)), none, (some (s "Clashed" 278)), (some (s "Clashed" 286)), (some (u "ValueError.__new__")), (some (.bool true))])), O "super" [(r 92), (r 92), (r 92)], O "builtin_function_or_method" [(u "object.__init_subclass__"), (r 92)], T [(r 31)], O "builtin_function_or_method" [(u "type.__prepare__"), (t "type")], D [(e P "__module__" 301 (s "threeroad.errors" 194)), (e P "__qualname__" 303 (s "NoVersion" 302)), (e P "__firstlineno__" 305 (i 17 304)), (e P "__static_attributes__" 306 (r 102))] 4, T [], E [], K "NoVersion" "NoVersion" 296 17 0 0 98 false n n n n 299, M 100 3 97 (s "threeroad.errors" 194), T [], D [(e P "__module__" 301 (s "threeroad.errors" 194)), (e P "__firstlineno__" 305 (i 17 304)), (e P "__static_attributes__" 306 (r 102)), (e P "__doc__" 307 n)] 2, (.mk (t "type") none (.cls (.mk "NoVersion" [(r 31)] [(r 104), (r 31), (t "ValueError"), (t "Exception"), (t "BaseException"), (t "object")] 103 "NoVersion" true [] [] false none false)) (List.toArray [(some (r 95)), none, (some (s "NoVersion" 294)), (some (s "NoVersion" 302)), (some (u "ValueError.__new__")), (some (.bool true))])), O "super" [(r 104), (r 104), (r 104)], O "builtin_function_or_method" [(u "object.__init_subclass__"), (r 104)], T [(r 31)], O "builtin_function_or_method" [(u "type.__prepare__"), (t "type")], D [(e P "__module__" 317 (s "threeroad.errors" 194)), (e P "__qualname__" 319 (s "SameVersion" 318)), (e P "__firstlineno__" 321 (i 19 320)), (e P "__static_attributes__" 322 (r 114))] 4, T [], E [], K "SameVersion" "SameVersion" 312 19 0 0 110 false n n n n 315, M 112 3 109 (s "threeroad.errors" 194), T [], D [(e P "__module__" 317 (s "threeroad.errors" 194)), (e P "__firstlineno__" 321 (i 19 320)), (e P "__static_attributes__" 322 (r 114)), (e P "__doc__" 323 n)] 2, (.mk (t "type") none (.cls (.mk "SameVersion" [(r 31)] [(r 116), (r 31), (t "ValueError"), (t "Exception"), (t "BaseException"), (t "object")] 115 "SameVersion" true [] [] false none false)) (List.toArray [(some (r 107)), none, (some (s "SameVersion" 310)), (some (s "SameVersion" 318)), (some (u "ValueError.__new__")), (some (.bool true))])), O "super" [(r 116), (r 116), (r 116)], O "builtin_function_or_method" [(u "object.__init_subclass__"), (r 116)], T [], E [], T [(s "text" 337), (s "sign" 338)], T [], G "is_part" "is_part" TB 14, K "is_part" "is_part" 334 25 1 3 119 true n (r 121) (r 122) (r 123) 339, F "is_part" "is_part" TB 14 3 (s "threeroad.paths" 326) (r 124), T [], E [], T [(s "text" 345), (s "parts" 346), (s "part" 347)], T [], G "is_path" "is_path" TB 15, K "is_path" "is_path" 342 32 1 3 126 true n (r 128) (r 129) (r 130) 348, F "is_path" "is_path" TB 15 3 (s "threeroad.paths" 326) (r 131), T [], E [], G "above" "above" TB 16, K "above" "above" 351 40 1 3 133 true n n n (r 135) 354, F "above" "above" TB 16 3 (s "threeroad.paths" 326) (r 136), T [], E [], T [(s "path" 360), (s "upper" 361)], T [], G "is_beneath" "is_beneath" TB 17, K "is_beneath" "is_beneath" 357 43 2 3 138 true n (r 140) (r 141) (r 142) 362, F "is_beneath" "is_beneath" TB 17 3 (s "threeroad.paths" 326) (r 143), T [], E [], T [(s "elder" 370), (s "one" 371), (s "other" 372), (s "found" 373), (s "tree" 374), (s "path" 375)], T [], G "all_paths" "all_paths" TB 19, K "all_paths" "all_paths" 367 46 3 3 145 true n (r 147) (r 148) (r 149) 376, F "all_paths" "all_paths" TB 19 3 (s "threeroad.joining" 365) (r 150), T [], E [], T [(s "elder" 382), (s "one" 383), (s "other" 384), (s "told" 385), (s "path" 386), (s "was" 387), (s "mine" 388), (s "theirs" 389)], T [], G "marks" "marks" TB 20, K "marks" "marks" 379 52 3 3 152 true n (r 154) (r 155) (r 156) 390, F "marks" "marks" TB 20 3 (s "threeroad.joining" 365) (r 157), T [], E [], G "clashing" "clashing" TB 21, K "clashing" "clashing" 393 68 3 3 159 true n n n (r 161) 396, F "clashing" "clashing" TB 21 3 (s "threeroad.joining" 365) (r 162), T [], E [], T [(s "elder" 402), (s "one" 403), (s "other" 404), (s "away" 405), (s "found" 406), (s "path" 407), (s "text" 408)], T [], G "standing" "standing" TB 22, K "standing" "standing" 399 70 3 3 164 true n (r 166) (r 167) (r 168) 409, F "standing" "standing" TB 22 3 (s "threeroad.joining" 365) (r 169), T [], E [], G "clashes" "clashes" TB 23, K "clashes" "clashes" 412 80 3 3 171 true n n n (r 173) 415, F "clashes" "clashes" TB 23 3 (s "threeroad.joining" 365) (r 174), T [], E [], T [(s "elder" 421), (s "one" 422), (s "other" 423), (s "picks" 424), (s "known" 425), (s "clash" 426), (s "path" 427), (s "files" 428), (s "folder" 429)], T [], G "joined" "joined" TB 24, K "joined" "joined" 418 88 4 3 176 true n (r 178) (r 179) (r 180) 430, F "joined" "joined" TB 24 3 (s "threeroad.joining" 365) (r 181), T [], E [], T [(s "tree" 438), (s "deed" 439), (s "path" 440), (s "fresh" 441), (s "other" 442)], T [], G "done" "done" TB 26, K "done" "done" 435 111 2 3 183 true n (r 185) (r 186) (r 187) 443, F "done" "done" TB 26 3 (s "threeroad.trees" 433) (r 188), T [], E [], T [(s "tree" 449), (s "deeds" 450), (s "fresh" 451), (s "deed" 452)], T [], G "changed" "changed" TB 27, K "changed" "changed" 446 126 2 3 190 true n (r 192) (r 193) (r 194) 453, F "changed" "changed" TB 27 3 (s "threeroad.trees" 433) (r 195), T [], O "builtin_function_or_method" [(u "type.__prepare__"), (t "type")], D [(e P "__module__" 465 (s "threeroad.book" 456)), (e P "__qualname__" 467 (s "Book" 466)), (e P "__firstlineno__" 469 (i 132 468)), (e P "__init__" 476 (r 210)), (e P "need" 484 (r 217)), (e P "many" 491 (r 224)), (e P "tree" 499 (r 231)), (e P "parents" 507 (r 238)), (e P "put_down" 516 (r 245)), (e P "grow" 525 (r 252)), (e P "merge" 537 (r 259)), (e P "elders" 548 (r 266)), (e P "nearest" 554 (r 271)), (e P "road" 567 (r 278)), (e P "story" 576 (r 285)), (e P "__static_attributes__" 579 (r 286))] 16, T [], E [(z 134), (z 4), (r 209), (z 138), (z 4), (r 216), (z 142), (z 4), (r 223), (z 145), (z 4), (r 230), (z 149), (z 4), (r 237), (z 153), (z 4), (r 244), (z 158), (z 4), (r 251), (z 162), (z 4), (r 258), (z 171), (z 4), (r 265), (z 180), (z 4), (r 270), (z 184), (z 4), (r 277), (z 199), (z 4), (r 284)], K "Book" "Book" 460 132 0 0 200 false n n n n 463, M 202 3 199 (s "threeroad.book" 456), T [], E [], T [(s "self" 473)], T [], G "__init__" "Book.__init__" (cB TB 29) 0, K "__init__" "Book.__init__" 470 134 1 3 204 true n (r 206) (r 207) (r 208) 474, F "__init__" "Book.__init__" (cB TB 29) 0 3 (s "threeroad.book" 456) (r 209), T [], E [], T [(s "self" 480), (s "number" 481)], T [], G "need" "Book.need" (cB TB 29) 1, K "need" "Book.need" 477 138 2 3 211 true n (r 213) (r 214) (r 215) 482, F "need" "Book.need" (cB TB 29) 1 3 (s "threeroad.book" 456) (r 216), T [], E [], T [(s "self" 488)], T [], G "many" "Book.many" (cB TB 29) 2, K "many" "Book.many" 485 142 1 3 218 true n (r 220) (r 221) (r 222) 489, F "many" "Book.many" (cB TB 29) 2 3 (s "threeroad.book" 456) (r 223), T [], E [], T [(s "self" 495), (s "number" 496)], T [], G "tree" "Book.tree" (cB TB 29) 3, K "tree" "Book.tree" 492 145 2 3 225 true n (r 227) (r 228) (r 229) 497, F "tree" "Book.tree" (cB TB 29) 3 3 (s "threeroad.book" 456) (r 230), T [], E [], T [(s "self" 503), (s "number" 504)], T [], G "parents" "Book.parents" (cB TB 29) 4, K "parents" "Book.parents" 500 149 2 3 232 true n (r 234) (r 235) (r 236) 505, F "parents" "Book.parents" (cB TB 29) 4 3 (s "threeroad.book" 456) (r 237), T [], E [], T [(s "self" 511), (s "tree" 512), (s "parents" 513)], T [], G "put_down" "Book.put_down" (cB TB 29) 5, K "put_down" "Book.put_down" 508 153 3 3 239 true n (r 241) (r 242) (r 243) 514, F "put_down" "Book.put_down" (cB TB 29) 5 3 (s "threeroad.book" 456) (r 244), T [], E [], T [(s "self" 520), (s "parent" 521), (s "deeds" 522)], T [], G "grow" "Book.grow" (cB TB 29) 6, K "grow" "Book.grow" 517 158 3 3 246 true n (r 248) (r 249) (r 250) 523, F "grow" "Book.grow" (cB TB 29) 6 3 (s "threeroad.book" 456) (r 251), T [], E [], T [(s "self" 529), (s "one" 530), (s "other" 531), (s "picks" 532), (s "elder" 533), (s "tree" 534)], T [], G "merge" "Book.merge" (cB TB 29) 7, K "merge" "Book.merge" 526 162 4 3 253 true n (r 255) (r 256) (r 257) 535, F "merge" "Book.merge" (cB TB 29) 7 3 (s "threeroad.book" 456) (r 258), T [], E [], T [(s "self" 541), (s "number" 542), (s "found" 543), (s "k" 544), (s "parent" 545)], T [], G "elders" "Book.elders" (cB TB 29) 8, K "elders" "Book.elders" 538 171 2 3 260 true n (r 262) (r 263) (r 264) 546, F "elders" "Book.elders" (cB TB 29) 8 3 (s "threeroad.book" 456) (r 265), T [], E [], G "nearest" "Book.nearest" (cB TB 29) 9, K "nearest" "Book.nearest" 549 180 3 3 267 true n n n (r 269) 552, F "nearest" "Book.nearest" (cB TB 29) 9 3 (s "threeroad.book" 456) (r 270), T [], E [], T [(s "self" 558), (s "elder" 559), (s "number" 560), (s "came" 561), (s "k" 562), (s "parent" 563), (s "row" 564)], T [], G "road" "Book.road" (cB TB 29) 10, K "road" "Book.road" 555 184 3 3 272 true n (r 274) (r 275) (r 276) 565, F "road" "Book.road" (cB TB 29) 10 3 (s "threeroad.book" 456) (r 277), T [], E [], T [(s "self" 571), (s "number" 572), (s "path" 573)], T [], G "story" "Book.story" (cB TB 29) 11, K "story" "Book.story" 568 199 3 3 279 true n (r 281) (r 282) (r 283) 574, F "story" "Book.story" (cB TB 29) 11 3 (s "threeroad.book" 456) (r 284), T [(s "made_of" 577), (s "trees" 578)], D [(e P "__module__" 465 (s "threeroad.book" 456)), (e P "__firstlineno__" 469 (i 132 468)), (e P "__init__" 476 (r 210)), (e P "need" 484 (r 217)), (e P "many" 491 (r 224)), (e P "tree" 499 (r 231)), (e P "parents" 507 (r 238)), (e P "put_down" 516 (r 245)), (e P "grow" 525 (r 252)), (e P "merge" 537 (r 259)), (e P "elders" 548 (r 266)), (e P "nearest" 554 (r 271)), (e P "road" 567 (r 278)), (e P "story" 576 (r 285)), (e P "__static_attributes__" 579 (r 286)), (e P "__dict__" 581 (r 289)), (e P "__weakref__" 583 (r 290)), (e P "__doc__" 584 n)] 4, (.mk (t "type") none (.cls (.mk "Book" [(t "object")] [(r 288), (t "object")] 287 "Book" true [] [] false none false)) (List.toArray [none, none, (some (s "Book" 458)), (some (s "Book" 466)), (some (u "object.__new__")), (some (.bool true))])), O "getset_descriptor" [(s "__dict__" 580), (r 288), (u "function.__dict__"), (u "function.__dict__#set")], O "getset_descriptor" [(s "__weakref__" 582), (r 288), (u "ExceptionGroup.__weakref__"), n], O "super" [(r 288), (r 288), (r 288)], O "builtin_function_or_method" [(u "object.__init_subclass__"), (r 288)], T [], E [], T [(s "_law_found" 592)], T [], G "_law_whole" "_law_whole" TB 31, K "_law_whole" "_law_whole" 589 202 1 3 293 true n (r 295) (r 296) (r 297) 593, F "_law_whole" "_law_whole" TB 31 3 (s "law_uf050007_09" 587) (r 298), T [], E [], T [(s "_law_script" 599), (s "_law_k" 600)], T [], G "_law_cell_at" "_law_cell_at" TB 32, K "_law_cell_at" "_law_cell_at" 596 204 2 3 300 true n (r 302) (r 303) (r 304) 601, F "_law_cell_at" "_law_cell_at" TB 32 3 (s "law_uf050007_09" 587) (r 305), T [], E [], G "_law_are_whole" "_law_are_whole" TB 33, K "_law_are_whole" "_law_are_whole" 604 208 1 3 307 true n n n (r 309) 607, F "_law_are_whole" "_law_are_whole" TB 33 3 (s "law_uf050007_09" 587) (r 310), T [], E [], G "_law_elders_by" "_law_elders_by" TB 34, K "_law_elders_by" "_law_elders_by" 610 210 2 3 312 true n n n (r 314) 613, F "_law_elders_by" "_law_elders_by" TB 34 3 (s "law_uf050007_09" 587) (r 315), T [], E [], T [(s "_law_book" 619), (s "_law_older" 620), (s "_law_cell" 621), (s "_law_one" 622), (s "_law_other" 623), (s "_law_number" 624), (s "_law_deeds" 625), (s "_law_many" 626)], T [], G "_law_deed" "_law_deed" TB 35, K "_law_deed" "_law_deed" 616 219 3 3 317 true n (r 319) (r 320) (r 321) 627, F "_law_deed" "_law_deed" TB 35 3 (s "law_uf050007_09" 587) (r 322), T [], E [], T [(s "_law_road" 633), (s "_law_older" 634), (s "_law_elder" 635), (s "_law_number" 636), (s "_law_k" 637)], T [], G "_law_is_road" "_law_is_road" TB 36, K "_law_is_road" "_law_is_road" 630 233 4 3 324 true n (r 326) (r 327) (r 328) 638, F "_law_is_road" "_law_is_road" TB 36 3 (s "law_uf050007_09" 587) (r 329), T [], E [], G "_law_came_of" "_law_came_of" TB 37, K "_law_came_of" "_law_came_of" 641 242 2 3 331 true n n n (r 333) 644, F "_law_came_of" "_law_came_of" TB 37 3 (s "law_uf050007_09" 587) (r 334), T [], E [], G "_law_nearest_holds" "_law_nearest_holds" TB 38, K "_law_nearest_holds" "_law_nearest_holds" 647 248 4 3 336 true n n n (r 338) 650, F "_law_nearest_holds" "_law_nearest_holds" TB 38 3 (s "law_uf050007_09" 587) (r 339), T [], E [], G "_law_holds" "_law_holds" TB 39, K "_law_holds" "_law_holds" 653 257 5 3 341 true n n n (r 343) 656, F "_law_holds" "_law_holds" TB 39 3 (s "law_uf050007_09" 587) (r 344), T [], E [], T [(s "_law_book" 662), (s "_law_older" 663), (s "_law_asked_here" 664), (s "_law_number" 665), (s "_law_one" 666), (s "_law_other" 667)], T [], G "_law_asked" "_law_asked" TB 40, K "_law_asked" "_law_asked" 659 280 3 3 346 true n (r 348) (r 349) (r 350) 668, F "_law_asked" "_law_asked" TB 40 3 (s "law_uf050007_09" 587) (r 351), T [], E [], G "law" "law" TB 41, K "law" "law" 671 283 1 3 353 true n n n (r 355) 674, F "law" "law" TB 41 3 (s "law_uf050007_09" 587) (r 356)]
noncomputable def ob (P : Params) (a : Nat) : Obj := (lz P).getD a default
noncomputable def hp_a (P : Params) : Heap := Heap.mk ⟨(((lz P).take 15).set 3 (boot_o_3 P)).set 12 (o12_0 P)⟩ lfe
abbrev sl_a (w : World) (os : OsState) : Shared := Shared.mk (hp_a w.params) #[] dw 187 os
noncomputable def tr_b (P : Params) : PySem.W.BT := bt 9 ((((lz P).take 15).set 3 (boot_o_3 P)).set 12 (o12_0 P))
abbrev st_b (w : World) (os : OsState) : SharedT := SharedT.mk (tr_b w.params) 15 lfe #[] dw 187 os
theorem q_pre : ∀ w : World, (fun os => topGo treeTable pw w 11 ann 12 (s0 w os) (topStub pw)) = fun os => some (sl_a w os, Thread.mk (denote treeTable cE) cE (ps 0 0 0 0) BB) := fun w => by rw [topGo_q, table_q, denote_q]; kernel_rfl
theorem q_block : ∀ w : World, (fun os => segRun treeTable pw w 11 ann 1 1 (sl_a w os) (blockOf (behindTheImports pw) env cE (ps 0 0 0 0) BB)) = fun os => some (Flow.next, (st_b w os).abs, cE, (ps 0 0 0 0)) := fun w => by rw [segRun_q, table_q]; kernel_rfl
noncomputable def tr_4 (P : Params) : PySem.W.BT := bt 9 (((((lz P).take 47).set 3 (o3_0 P)).set 12 (o12_1 P)).set 31 (o31_0 P))
abbrev st_4 (w : World) (os : OsState) : SharedT := SharedT.mk (tr_4 w.params) 47 lfe #[] dw 230 os
noncomputable def ss_4 : List Stmt := ((behindTheImports pw).drop 0).take 4
theorem q_4 : ∀ w : World, (fun os => segRunT treeTable pw w 11 ann 1 438 (st_b w os) (piecesOf ss_4 env cE (ps 0 0 0 0) BB)) = fun os => some (Flow.next, st_4 w os, cE, (ps 7 0 8 8)) := fun w => by rw [segRunT_q, table_q]; kernel_rfl
noncomputable def tr_6 (P : Params) : PySem.W.BT := bt 9 (((((lz P).take 71).set 3 (o3_1 P)).set 12 (o12_2 P)).set 31 (o31_1 P))
abbrev st_6 (w : World) (os : OsState) : SharedT := SharedT.mk (tr_6 w.params) 71 lfe #[] dw 262 os
noncomputable def ss_6 : List Stmt := ((behindTheImports pw).drop 4).take 2
theorem q_6 : ∀ w : World, (fun os => segRunT treeTable pw w 11 ann 1 427 (st_4 w os) (piecesOf ss_6 env cE (ps 7 0 8 8) BB)) = fun os => some (Flow.next, st_6 w os, cE, (ps 11 0 12 8)) := fun w => by rw [segRunT_q, table_q]; kernel_rfl
noncomputable def tr_8 (P : Params) : PySem.W.BT := bt 9 (((((lz P).take 95).set 3 (o3_2 P)).set 12 (o12_3 P)).set 31 (o31_2 P))
abbrev st_8 (w : World) (os : OsState) : SharedT := SharedT.mk (tr_8 w.params) 95 lfe #[] dw 294 os
noncomputable def ss_8 : List Stmt := ((behindTheImports pw).drop 6).take 2
theorem q_8 : ∀ w : World, (fun os => segRunT treeTable pw w 11 ann 1 427 (st_6 w os) (piecesOf ss_8 env cE (ps 11 0 12 8) BB)) = fun os => some (Flow.next, st_8 w os, cE, (ps 15 0 16 8)) := fun w => by rw [segRunT_q, table_q]; kernel_rfl
noncomputable def tr_12 (P : Params) : PySem.W.BT := bt 9 ((((lz P).take 119).set 3 (o3_3 P)).set 12 (o12_4 P))
abbrev st_12 (w : World) (os : OsState) : SharedT := SharedT.mk (tr_12 w.params) 119 lfe #[] dw 330 os
noncomputable def ss_12 : List Stmt := ((behindTheImports pw).drop 8).take 4
theorem q_12 : ∀ w : World, (fun os => segRunT treeTable pw w 11 ann 1 445 (st_8 w os) (piecesOf ss_12 env cE (ps 15 0 16 8) BB)) = fun os => some (Flow.next, st_12 w os, cE, (ps 22 0 22 5)) := fun w => by rw [segRunT_q, table_q]; kernel_rfl
noncomputable def tr_29 (P : Params) : PySem.W.BT := bt 9 ((((lz P).take 197).set 3 (o3_4 P)).set 12 (o12_5 P))
abbrev st_29 (w : World) (os : OsState) : SharedT := SharedT.mk (tr_29 w.params) 197 lfe #[] dw 458 os
noncomputable def ss_29 : List Stmt := ((behindTheImports pw).drop 12).take 17
theorem q_29 : ∀ w : World, (fun os => segRunT treeTable pw w 11 ann 1 422 (st_12 w os) (piecesOf ss_29 env cE (ps 22 0 22 5) BB)) = fun os => some (Flow.next, st_29 w os, cE, (ps 131 0 131 8)) := fun w => by rw [segRunT_q, table_q]; kernel_rfl
noncomputable def tr_30 (P : Params) : PySem.W.BT := bt 9 ((((lz P).take 293).set 3 (o3_5 P)).set 12 (o12_6 P))
abbrev st_30 (w : World) (os : OsState) : SharedT := SharedT.mk (tr_30 w.params) 293 lfe #[] dw 587 os
noncomputable def ss_30 : List Stmt := ((behindTheImports pw).drop 29).take 1
theorem q_30 : ∀ w : World, (fun os => segRunT treeTable pw w 11 ann 1 585 (st_29 w os) (piecesOf ss_30 env cE (ps 131 0 131 8) BB)) = fun os => some (Flow.next, st_30 w os, cE, (ps 132 0 200 16)) := fun w => by rw [segRunT_q, table_q]; kernel_rfl
noncomputable def tr_42 (P : Params) : PySem.W.BT := bt 9 (lz P)
abbrev st_42 (w : World) (os : OsState) : SharedT := SharedT.mk (tr_42 w.params) 358 lfe #[] dw 677 os
noncomputable def ss_42 : List Stmt := ((behindTheImports pw).drop 30).take 12
theorem q_42 : ∀ w : World, (fun os => segRunT treeTable pw w 11 ann 1 328 (st_30 w os) (piecesOf ss_42 env cE (ps 132 0 200 16) BB)) = fun os => some (Flow.next, st_42 w os, cE, (ps 283 0 305 146)) := fun w => by rw [segRunT_q, table_q]; kernel_rfl
noncomputable def hp_f (P : Params) : Heap := Heap.mk ⟨lz P⟩ lfe
abbrev sl_f (w : World) (os : OsState) : Shared := Shared.mk (hp_f w.params) #[] dw 677 os
theorem q_fin : ∀ w : World, (fun os => topRun treeTable pw w 11 ann 2 (st_42 w os).abs (Thread.mk (doneF .next) cE (ps 283 0 305 146) BB)) = fun os => some (sl_f w os) := fun w => by rw [topRun_q, table_q]; kernel_rfl
theorem body_eq : behindTheImports pw = (ss_4 ++ (ss_6 ++ (ss_8 ++ (ss_12 ++ (ss_29 ++ (ss_30 ++ (ss_42 ++ ([] : List Stmt)))))))) := by kernel_rfl
theorem q_rest (w : World) (os : OsState) : topRun treeTable pw w 11 ann (Nat.add 438 (Nat.add 427 (Nat.add 427 (Nat.add 445 (Nat.add 422 (Nat.add 585 (Nat.add 328 2))))))) (st_b w os).abs (restOf (ss_4 ++ (ss_6 ++ (ss_8 ++ (ss_12 ++ (ss_29 ++ (ss_30 ++ (ss_42 ++ ([] : List Stmt)))))))) env cE (ps 0 0 0 0) BB) = some (sl_f w os) :=
 (piece_app (tb := treeTable) (p := pw) (w := w) (n₀ := 11) (ann := ann) (env := env) (q := qq) (n := 438) (N := (Nat.add 427 (Nat.add 427 (Nat.add 445 (Nat.add 422 (Nat.add 585 (Nat.add 328 2))))))) (s := (st_b w os).abs) (s' := (st_4 w os).abs) (r := sl_f w os) (l := ss_4) (rest := (ss_6 ++ (ss_8 ++ (ss_12 ++ (ss_29 ++ (ss_30 ++ (ss_42 ++ ([] : List Stmt)))))))) (c := cE) (pos := (ps 0 0 0 0)) (p' := (ps 7 0 8 8)) (segRun_of (congrFun (q_4 w) os))
  (piece_app (tb := treeTable) (p := pw) (w := w) (n₀ := 11) (ann := ann) (env := env) (q := qq) (n := 427) (N := (Nat.add 427 (Nat.add 445 (Nat.add 422 (Nat.add 585 (Nat.add 328 2)))))) (s := (st_4 w os).abs) (s' := (st_6 w os).abs) (r := sl_f w os) (l := ss_6) (rest := (ss_8 ++ (ss_12 ++ (ss_29 ++ (ss_30 ++ (ss_42 ++ ([] : List Stmt))))))) (c := cE) (pos := (ps 7 0 8 8)) (p' := (ps 11 0 12 8)) (segRun_of (congrFun (q_6 w) os))
  (piece_app (tb := treeTable) (p := pw) (w := w) (n₀ := 11) (ann := ann) (env := env) (q := qq) (n := 427) (N := (Nat.add 445 (Nat.add 422 (Nat.add 585 (Nat.add 328 2))))) (s := (st_6 w os).abs) (s' := (st_8 w os).abs) (r := sl_f w os) (l := ss_8) (rest := (ss_12 ++ (ss_29 ++ (ss_30 ++ (ss_42 ++ ([] : List Stmt)))))) (c := cE) (pos := (ps 11 0 12 8)) (p' := (ps 15 0 16 8)) (segRun_of (congrFun (q_8 w) os))
  (piece_app (tb := treeTable) (p := pw) (w := w) (n₀ := 11) (ann := ann) (env := env) (q := qq) (n := 445) (N := (Nat.add 422 (Nat.add 585 (Nat.add 328 2)))) (s := (st_8 w os).abs) (s' := (st_12 w os).abs) (r := sl_f w os) (l := ss_12) (rest := (ss_29 ++ (ss_30 ++ (ss_42 ++ ([] : List Stmt))))) (c := cE) (pos := (ps 15 0 16 8)) (p' := (ps 22 0 22 5)) (segRun_of (congrFun (q_12 w) os))
  (piece_app (tb := treeTable) (p := pw) (w := w) (n₀ := 11) (ann := ann) (env := env) (q := qq) (n := 422) (N := (Nat.add 585 (Nat.add 328 2))) (s := (st_12 w os).abs) (s' := (st_29 w os).abs) (r := sl_f w os) (l := ss_29) (rest := (ss_30 ++ (ss_42 ++ ([] : List Stmt)))) (c := cE) (pos := (ps 22 0 22 5)) (p' := (ps 131 0 131 8)) (segRun_of (congrFun (q_29 w) os))
  (piece_app (tb := treeTable) (p := pw) (w := w) (n₀ := 11) (ann := ann) (env := env) (q := qq) (n := 585) (N := (Nat.add 328 2)) (s := (st_29 w os).abs) (s' := (st_30 w os).abs) (r := sl_f w os) (l := ss_30) (rest := (ss_42 ++ ([] : List Stmt))) (c := cE) (pos := (ps 131 0 131 8)) (p' := (ps 132 0 200 16)) (segRun_of (congrFun (q_30 w) os))
  (piece_app (tb := treeTable) (p := pw) (w := w) (n₀ := 11) (ann := ann) (env := env) (q := qq) (n := 328) (N := 2) (s := (st_30 w os).abs) (s' := (st_42 w os).abs) (r := sl_f w os) (l := ss_42) (rest := ([] : List Stmt)) (c := cE) (pos := (ps 132 0 200 16)) (p' := (ps 283 0 305 146)) (segRun_of (congrFun (q_42 w) os))
  (congrFun (q_fin w) os))))))))
theorem q_run (w : World) (os : OsState) : topRun treeTable pw w 11 ann (Nat.add 12 (Nat.add 1 (Nat.add 438 (Nat.add 427 (Nat.add 427 (Nat.add 445 (Nat.add 422 (Nat.add 585 (Nat.add 328 2))))))))) (s0 w os) (topStub pw) = some (sl_f w os) :=
 go_top (congrFun (q_pre w) os) (piece_block (congrFun (q_block w) os) (by rw [show restOf (behindTheImports pw) env cE (ps 0 0 0 0) BB = restOf (ss_4 ++ (ss_6 ++ (ss_8 ++ (ss_12 ++ (ss_29 ++ (ss_30 ++ (ss_42 ++ ([] : List Stmt)))))))) env cE (ps 0 0 0 0) BB from congrArg (fun b => restOf b env cE (ps 0 0 0 0) BB) body_eq]; exact q_rest w os))
theorem q_le : Nat.ble (Nat.add 12 (Nat.add 1 (Nat.add 438 (Nat.add 427 (Nat.add 427 (Nat.add 445 (Nat.add 422 (Nat.add 585 (Nat.add 328 2))))))))) 6256 = true := by kernel_rfl
theorem q_open : ∀ w : World, (fencedOpening treeTable pw w 6256).map (fun s => (s.heap, s.gens, s.drawn, s.toks)) = some (boot_heap w.params, (@Array.mk GenState []), boot_drawn, boot_toks) := boot_open (by kernel_rfl) (by kernel_rfl) (fun _ => by kernel_rfl)
theorem q_size : ∀ w : World, ((boot_heap w.params).isNs mainGlobals && ((@Array.mk GenState [])).size == 0, (boot_heap w.params).objs.size, (boot_heap w.params).nsMap mainGlobals "__annotations__") = (true, 11, ann) := fun w => by kernel_rfl
noncomputable def ks : List Addr := [0, 1, 2, 3, 4, 5, 6, 7, 9, 10, 11, 13, 14, 15, 17, 18, 20, 21, 22, 23, 24, 25, 27, 28, 29, 30, 31, 32, 33, 34, 35, 36, 37, 38, 40, 41, 42, 43, 44, 45, 46, 47, 48, 49, 50, 52, 53, 54, 55, 56, 57, 58, 59, 60, 61, 62, 64, 65, 66, 67, 68, 69, 70, 71, 72, 73, 74, 76, 77, 78, 79, 80, 81, 82, 83, 84, 85, 86, 88, 89, 90, 91, 92, 93, 94, 95, 96, 97, 98, 100, 101, 102, 103, 104, 105, 106, 107, 108, 109, 110, 112, 113, 114, 115, 116, 117, 118, 119, 121, 122, 124, 125, 126, 128, 129, 131, 132, 133, 136, 137, 138, 140, 141, 143, 144, 145, 147, 148, 150, 151, 152, 154, 155, 157, 158, 159, 162, 163, 164, 166, 167, 169, 170, 171, 174, 175, 176, 178, 179, 181, 182, 183, 185, 186, 188, 189, 190, 192, 193, 195, 196, 197, 198, 199, 200, 202, 203, 204, 206, 207, 209, 210, 211, 213, 214, 216, 217, 218, 220, 221, 223, 224, 225, 227, 228, 230, 231, 232, 234, 235, 237, 238, 239, 241, 242, 244, 245, 246, 248, 249, 251, 252, 253, 255, 256, 258, 259, 260, 262, 263, 265, 266, 267, 270, 271, 272, 274, 275, 277, 278, 279, 281, 282, 284, 285, 286, 287, 288, 289, 290, 291, 292, 293, 295, 296, 298, 299, 300, 302, 303, 305, 306, 307, 310, 311, 312, 315, 316, 317, 319, 320, 322, 323, 324, 326, 327, 329, 330, 331, 334, 335, 336, 339, 340, 341, 344, 345, 346, 348, 349, 351, 352, 353, 356, 357]
noncomputable def kk (P : Params) : Frag := ks.map fun a => (a, (lz P).getD a default)
abbrev NN : Nat := 6256
noncomputable def bkA : Addr := 288
noncomputable def bkN : Addr := 287
noncomputable def fd___init__ (P : Params) : FuncData := match (ob P 210).data with | .func fd => fd | _ => default
theorem m___init__ (P : Params) : (kk P).lookup 210 = some (ob P 210) ∧ (ob P 210).cls = .type "function" ∧ (ob P 210).data = .func (fd___init__ P) ∧ codeIn (kk P) (fd___init__ P).code (fd___init__ P).qualname = true ∧ (fd___init__ P).body = .stmts (fB (cB TB 29) 0) ∧ (fd___init__ P).scope = fS (cB TB 29) 0 ∧ (fd___init__ P).closure = [] ∧ (fd___init__ P).globals = mainGlobals ∧ (fd___init__ P).builtins = builtinsNs := by
 refine ⟨?_, ?_, ?_, ?_, ?_, ?_, ?_, ?_, ?_⟩ <;> kernel_rfl
theorem mn___init__ (P : Params) : nsIn (kk P) bkN (Str.ofString "__init__") = some (some (.ref 210)) := by kernel_rfl
noncomputable def fd_need (P : Params) : FuncData := match (ob P 217).data with | .func fd => fd | _ => default
theorem m_need (P : Params) : (kk P).lookup 217 = some (ob P 217) ∧ (ob P 217).cls = .type "function" ∧ (ob P 217).data = .func (fd_need P) ∧ codeIn (kk P) (fd_need P).code (fd_need P).qualname = true ∧ (fd_need P).body = .stmts (fB (cB TB 29) 1) ∧ (fd_need P).scope = fS (cB TB 29) 1 ∧ (fd_need P).closure = [] ∧ (fd_need P).globals = mainGlobals ∧ (fd_need P).builtins = builtinsNs := by
 refine ⟨?_, ?_, ?_, ?_, ?_, ?_, ?_, ?_, ?_⟩ <;> kernel_rfl
theorem mn_need (P : Params) : nsIn (kk P) bkN (Str.ofString "need") = some (some (.ref 217)) := by kernel_rfl
noncomputable def fd_many (P : Params) : FuncData := match (ob P 224).data with | .func fd => fd | _ => default
theorem m_many (P : Params) : (kk P).lookup 224 = some (ob P 224) ∧ (ob P 224).cls = .type "function" ∧ (ob P 224).data = .func (fd_many P) ∧ codeIn (kk P) (fd_many P).code (fd_many P).qualname = true ∧ (fd_many P).body = .stmts (fB (cB TB 29) 2) ∧ (fd_many P).scope = fS (cB TB 29) 2 ∧ (fd_many P).closure = [] ∧ (fd_many P).globals = mainGlobals ∧ (fd_many P).builtins = builtinsNs := by
 refine ⟨?_, ?_, ?_, ?_, ?_, ?_, ?_, ?_, ?_⟩ <;> kernel_rfl
theorem mn_many (P : Params) : nsIn (kk P) bkN (Str.ofString "many") = some (some (.ref 224)) := by kernel_rfl
noncomputable def fd_tree (P : Params) : FuncData := match (ob P 231).data with | .func fd => fd | _ => default
theorem m_tree (P : Params) : (kk P).lookup 231 = some (ob P 231) ∧ (ob P 231).cls = .type "function" ∧ (ob P 231).data = .func (fd_tree P) ∧ codeIn (kk P) (fd_tree P).code (fd_tree P).qualname = true ∧ (fd_tree P).body = .stmts (fB (cB TB 29) 3) ∧ (fd_tree P).scope = fS (cB TB 29) 3 ∧ (fd_tree P).closure = [] ∧ (fd_tree P).globals = mainGlobals ∧ (fd_tree P).builtins = builtinsNs := by
 refine ⟨?_, ?_, ?_, ?_, ?_, ?_, ?_, ?_, ?_⟩ <;> kernel_rfl
theorem mn_tree (P : Params) : nsIn (kk P) bkN (Str.ofString "tree") = some (some (.ref 231)) := by kernel_rfl
noncomputable def fd_parents (P : Params) : FuncData := match (ob P 238).data with | .func fd => fd | _ => default
theorem m_parents (P : Params) : (kk P).lookup 238 = some (ob P 238) ∧ (ob P 238).cls = .type "function" ∧ (ob P 238).data = .func (fd_parents P) ∧ codeIn (kk P) (fd_parents P).code (fd_parents P).qualname = true ∧ (fd_parents P).body = .stmts (fB (cB TB 29) 4) ∧ (fd_parents P).scope = fS (cB TB 29) 4 ∧ (fd_parents P).closure = [] ∧ (fd_parents P).globals = mainGlobals ∧ (fd_parents P).builtins = builtinsNs := by
 refine ⟨?_, ?_, ?_, ?_, ?_, ?_, ?_, ?_, ?_⟩ <;> kernel_rfl
theorem mn_parents (P : Params) : nsIn (kk P) bkN (Str.ofString "parents") = some (some (.ref 238)) := by kernel_rfl
noncomputable def fd_put_down (P : Params) : FuncData := match (ob P 245).data with | .func fd => fd | _ => default
theorem m_put_down (P : Params) : (kk P).lookup 245 = some (ob P 245) ∧ (ob P 245).cls = .type "function" ∧ (ob P 245).data = .func (fd_put_down P) ∧ codeIn (kk P) (fd_put_down P).code (fd_put_down P).qualname = true ∧ (fd_put_down P).body = .stmts (fB (cB TB 29) 5) ∧ (fd_put_down P).scope = fS (cB TB 29) 5 ∧ (fd_put_down P).closure = [] ∧ (fd_put_down P).globals = mainGlobals ∧ (fd_put_down P).builtins = builtinsNs := by
 refine ⟨?_, ?_, ?_, ?_, ?_, ?_, ?_, ?_, ?_⟩ <;> kernel_rfl
theorem mn_put_down (P : Params) : nsIn (kk P) bkN (Str.ofString "put_down") = some (some (.ref 245)) := by kernel_rfl
noncomputable def fd_grow (P : Params) : FuncData := match (ob P 252).data with | .func fd => fd | _ => default
theorem m_grow (P : Params) : (kk P).lookup 252 = some (ob P 252) ∧ (ob P 252).cls = .type "function" ∧ (ob P 252).data = .func (fd_grow P) ∧ codeIn (kk P) (fd_grow P).code (fd_grow P).qualname = true ∧ (fd_grow P).body = .stmts (fB (cB TB 29) 6) ∧ (fd_grow P).scope = fS (cB TB 29) 6 ∧ (fd_grow P).closure = [] ∧ (fd_grow P).globals = mainGlobals ∧ (fd_grow P).builtins = builtinsNs := by
 refine ⟨?_, ?_, ?_, ?_, ?_, ?_, ?_, ?_, ?_⟩ <;> kernel_rfl
theorem mn_grow (P : Params) : nsIn (kk P) bkN (Str.ofString "grow") = some (some (.ref 252)) := by kernel_rfl
noncomputable def fd_merge (P : Params) : FuncData := match (ob P 259).data with | .func fd => fd | _ => default
theorem m_merge (P : Params) : (kk P).lookup 259 = some (ob P 259) ∧ (ob P 259).cls = .type "function" ∧ (ob P 259).data = .func (fd_merge P) ∧ codeIn (kk P) (fd_merge P).code (fd_merge P).qualname = true ∧ (fd_merge P).body = .stmts (fB (cB TB 29) 7) ∧ (fd_merge P).scope = fS (cB TB 29) 7 ∧ (fd_merge P).closure = [] ∧ (fd_merge P).globals = mainGlobals ∧ (fd_merge P).builtins = builtinsNs := by
 refine ⟨?_, ?_, ?_, ?_, ?_, ?_, ?_, ?_, ?_⟩ <;> kernel_rfl
theorem mn_merge (P : Params) : nsIn (kk P) bkN (Str.ofString "merge") = some (some (.ref 259)) := by kernel_rfl
noncomputable def fd_elders (P : Params) : FuncData := match (ob P 266).data with | .func fd => fd | _ => default
theorem m_elders (P : Params) : (kk P).lookup 266 = some (ob P 266) ∧ (ob P 266).cls = .type "function" ∧ (ob P 266).data = .func (fd_elders P) ∧ codeIn (kk P) (fd_elders P).code (fd_elders P).qualname = true ∧ (fd_elders P).body = .stmts (fB (cB TB 29) 8) ∧ (fd_elders P).scope = fS (cB TB 29) 8 ∧ (fd_elders P).closure = [] ∧ (fd_elders P).globals = mainGlobals ∧ (fd_elders P).builtins = builtinsNs := by
 refine ⟨?_, ?_, ?_, ?_, ?_, ?_, ?_, ?_, ?_⟩ <;> kernel_rfl
theorem mn_elders (P : Params) : nsIn (kk P) bkN (Str.ofString "elders") = some (some (.ref 266)) := by kernel_rfl
noncomputable def fd_nearest (P : Params) : FuncData := match (ob P 271).data with | .func fd => fd | _ => default
theorem m_nearest (P : Params) : (kk P).lookup 271 = some (ob P 271) ∧ (ob P 271).cls = .type "function" ∧ (ob P 271).data = .func (fd_nearest P) ∧ codeIn (kk P) (fd_nearest P).code (fd_nearest P).qualname = true ∧ (fd_nearest P).body = .stmts (fB (cB TB 29) 9) ∧ (fd_nearest P).scope = fS (cB TB 29) 9 ∧ (fd_nearest P).closure = [] ∧ (fd_nearest P).globals = mainGlobals ∧ (fd_nearest P).builtins = builtinsNs := by
 refine ⟨?_, ?_, ?_, ?_, ?_, ?_, ?_, ?_, ?_⟩ <;> kernel_rfl
theorem mn_nearest (P : Params) : nsIn (kk P) bkN (Str.ofString "nearest") = some (some (.ref 271)) := by kernel_rfl
noncomputable def fd_road (P : Params) : FuncData := match (ob P 278).data with | .func fd => fd | _ => default
theorem m_road (P : Params) : (kk P).lookup 278 = some (ob P 278) ∧ (ob P 278).cls = .type "function" ∧ (ob P 278).data = .func (fd_road P) ∧ codeIn (kk P) (fd_road P).code (fd_road P).qualname = true ∧ (fd_road P).body = .stmts (fB (cB TB 29) 10) ∧ (fd_road P).scope = fS (cB TB 29) 10 ∧ (fd_road P).closure = [] ∧ (fd_road P).globals = mainGlobals ∧ (fd_road P).builtins = builtinsNs := by
 refine ⟨?_, ?_, ?_, ?_, ?_, ?_, ?_, ?_, ?_⟩ <;> kernel_rfl
theorem mn_road (P : Params) : nsIn (kk P) bkN (Str.ofString "road") = some (some (.ref 278)) := by kernel_rfl
noncomputable def fd_story (P : Params) : FuncData := match (ob P 285).data with | .func fd => fd | _ => default
theorem m_story (P : Params) : (kk P).lookup 285 = some (ob P 285) ∧ (ob P 285).cls = .type "function" ∧ (ob P 285).data = .func (fd_story P) ∧ codeIn (kk P) (fd_story P).code (fd_story P).qualname = true ∧ (fd_story P).body = .stmts (fB (cB TB 29) 11) ∧ (fd_story P).scope = fS (cB TB 29) 11 ∧ (fd_story P).closure = [] ∧ (fd_story P).globals = mainGlobals ∧ (fd_story P).builtins = builtinsNs := by
 refine ⟨?_, ?_, ?_, ?_, ?_, ?_, ?_, ?_, ?_⟩ <;> kernel_rfl
theorem mn_story (P : Params) : nsIn (kk P) bkN (Str.ofString "story") = some (some (.ref 285)) := by kernel_rfl
theorem openSeen_q : @openSeen = @PySem.W.Fast.tw4187177175401517315 := PySem.W.Fast.te4187177175401517315
theorem imods_q : importedModules = PySem.W.Fast.tw5923862056798008813 := PySem.W.Fast.te5923862056798008813
abbrev rw : OpenLaw := PySem.Challenge.rw_uf050007_09
abbrev Xt : Shared → Bool := fun s => xlAt vw [] s && recOk (RowW.records (OpenRow.toRowW rw.row)) s
abbrev HK : Hook := kHook kk ks (fun _ => by kernel_rfl)
theorem l_1 : ∀ w : World, (fun os => (staticsOk (importedModules pw.main.body) (boot_heap w.params) (hp_f w.params) && namesBound pw (hp_f w.params) && gensDone (sl_f w os) && laidKept (boot_heap w.params) (hp_f w.params))) = fun _ : OsState => true := fun w => by rw [imods_q]; kernel_rfl
theorem l_2 : ∀ w : World, (fun os => openSeen vw [] (importedModules pw.main.body) Xt true (sl_f w os)) = fun _ : OsState => openGood vw [] := fun w => by rw [imods_q, openSeen_q]; kernel_rfl
theorem l_3 : ∀ w : World, (fun os => HK.obs (sl_f w os)) = fun _ : OsState => HK.val w := fun w => by kernel_rfl
theorem left : LeftO pw vw [] Xt HK.obs HK.val NN :=
 LeftO.of_pieces (p := pw) (q := vw) (loose := []) (Xt := Xt) (Yf := HK.obs) (Ya := HK.val) (N := NN) (g0 := true) (H₀ := boot_heap) (H₁ := hp_f) q_open q_size q_run q_le
  fun w => funext fun os => looks_pair (congrFun (l_1 w) os) (looks_pair (congrFun (l_2 w) os) (congrFun (l_3 w) os))
theorem said : rw.wellSaid = true := by
 unfold OpenLaw.wellSaid OpenRow.wellSaid OpenRow.partSaid looksOpen
 repeat' (with_reducible refine look_both ?_ ?_)
 all_goals decide +kernel
theorem hd {d : DefRec} {kwd : List (Str × Expr)} (hdef : defOf vw rw.row.name = some (d, kwd)) (hp : rw.row.prog.theDef rw.row.name = some (d.params, d.body, d.scope)) (hk : kwWritten? d.params.kwonlyargs d.params.kw_defaults = some kwd)
  (call : WalkO vw [] (XL vw []) HK.says rw.row.toRowW d kwd fun f vs => PySem.call f vs) : rw.Holds :=
 holds_law said fun said' =>
  holds_open (q := vw) (loose := []) (Xt := Xt) (XP := XL vw []) (Yf := HK.obs) (Ya := HK.val) (YP := HK.says) (N := NN) left HK.of HK.keeps (fun s e => xl_of s (Bool.and_eq_true_iff.mp e).1) XL.keeps hdef hp hk
   (fun s e => recFacts_of (Bool.and_eq_true_iff.mp e).2) (by rfl) said' (by decide +kernel) ⟨rfl, rfl, rfl, rfl, rfl, by decide +kernel⟩ (by w_witness2) call
end
end Hd
end Mine
end
noncomputable section
namespace Mine
open PySem PySem.W PyProof.Rows PySem.Calls
noncomputable def yt : Str := Str.ofString "abcdefghijklmnopqrstuvwxyzABCDEFGHIJKLMNOPQRSTUVWXYZ0123456789.-_"
noncomputable def ds (x : Str) : Bool := decide (x ≠ Str.ofString "." ∧ x ≠ Str.ofString ".." ∧ 1 ≤ x.length ∧ x.length ≤ 12) && (cl x).all fun c => Txt.contains yt ⟨#[c]⟩
noncomputable def db (x : Str) : Bool := decide ((Txt.split x (Str.ofString "/")).length ≤ 8) && (Txt.split x (Str.ofString "/")).all ds
noncomputable def keysOf (kvs : List (Str × V)) : List Str := kvs.map (·.1)
noncomputable def vk (k : Nat) : Str := Str.ofString "v" ++ Str.ofString ((k : Int).repr)
structure Un (U : List (Str × V)) : Prop where
 len : U.length ≤ 200
 key : ∀ q ∈ U, 47 ∉ cl q.1 ∧ q.1.length ≤ 12
 val : ∀ q ∈ U, ∃ y, q.2 = .str y
 nodup : (keysOf U).Nodup
structure Inn (U kvs : List (Str × V)) : Prop where
 sub : ∀ q ∈ kvs, q ∈ U
 nodup : (keysOf kvs).Nodup
noncomputable def jz (q : Str × Str) : V := .tup [.str (Str.ofString "put"), .str q.1, .str q.2]
noncomputable def pp (dl : List (Str × Str)) : List (Str × V) := dl.map fun q => (q.1, .str q.2)
noncomputable def lf (S : List Addr) (σ σ' : ai) : Prop := ∀ b o, σ b = some o → b ∉ S → σ' b = some o
noncomputable def bn (ps : List (List Int)) : List V := ps.map fun p => .tup (p.map .int)
structure Ord (ps : List (List Int)) : Prop where
 two : ∀ (k : Nat) l, ps[k]? = some l → l.length ≤ 2
 lt : ∀ (k : Nat) l, ps[k]? = some l → ∀ p ∈ l, 0 ≤ p ∧ p < (k : Int)
 some : ∀ (k : Nat) l, ps[k]? = Option.some l → 0 < k → l ≠ []
 few : ps.length ≤ 200
 pos : 0 < ps.length
structure BookAt (U : List (Str × V)) (σ : ai) (b t mo : Addr) (ads : List Addr) (ts : List (List (Str × V))) (ps : List (List Int)) : Prop where
 obj : ∃ dx, σ b = some (.inst dx) ∧ σ dx = some (.ns [("made_of", .ref mo), ("trees", .ref t)])
 tr : σ t = some (.list (ads.map .ref))
 md : σ mo = some (.list (bn ps))
 ne : t ≠ mo
 len : ads.length = ts.length
 lenP : ps.length = ts.length
 at_ : ∀ (i : Nat) d, ads[i]? = some d → ∃ kvs ep, ts[i]? = some kvs ∧ σ d = some (.dict kvs ep)
 un : Un U
 tree : ∀ kvs ∈ ts, Inn U kvs
 ord : Ord ps
inductive Anc (ps : List (List Int)) : Int → Int → Prop
 | self (n : Int) : Anc ps n n
 | up {n p x : Int} {l : List Int} : ps[n.toNat]? = some l → p ∈ l → Anc ps p x → Anc ps n x
inductive Road (ps : List (List Int)) (e : Int) : Int → List Int → Prop
 | one : Road ps e e [e]
 | more {n p : Int} {r l : List Int} : Road ps e p r → ps[n.toNat]? = some l → p ∈ l → Road ps e n (r ++ [n])
structure Eld (ps : List (List Int)) (n : Int) (xs : List Int) : Prop where
 lt : xs.Pairwise (· < ·)
 mem : ∀ x, x ∈ xs ↔ Anc ps n x
structure D3 (U : List (Str × V)) (a b c : Addr) (ka kb kc : List (Str × V)) (e1 e2 e3 : Nat) (σ : ai) : Prop where
 xa : σ a = some (.dict ka e1)
 xb : σ b = some (.dict kb e2)
 xc : σ c = some (.dict kc e3)
 ta : Inn U ka
 tb : Inn U kb
 tc : Inn U kc
 un : Un U
structure Vs (n : Nat) (U : List (Str × V)) : Prop where
 key : ∀ q ∈ U, ∃ k : Nat, 1 ≤ k ∧ k < n ∧ q.1 = vk k
 val : ∀ q ∈ U, ∃ y, q.2 = .str y
 nodup : (keysOf U).Nodup
inductive sp_is_part (ns : List Int) (vs : List V) (σ : ai) (Q : V → ai → Prop) : Prop
 | mk (x : _) (h1 : vs = [.str x]) (h2 : x.length ≤ 1000) (h3 : Q (.bool (ds x)) σ) : sp_is_part ns vs σ Q
inductive sp_is_path (ns : List Int) (vs : List V) (σ : ai) (Q : V → ai → Prop) : Prop
 | mk (x : _) (h1 : vs = [.str x]) (h2 : x.length ≤ 1000) (h3 : ∀ σ', Grow σ σ' → Q (.bool (db x)) σ') : sp_is_path ns vs σ Q
inductive sp_above (ns : List Int) (vs : List V) (σ : ai) (Q : V → ai → Prop) : Prop
 | mk (x : _) (h1 : vs = [.str x]) (h2 : 47 ∉ cl x) (h3 : x.length ≤ 300) (h4 : eY [] σ Q) : sp_above ns vs σ Q
inductive sp_is_beneath (ns : List Int) (vs : List V) (σ : ai) (Q : V → ai → Prop) : Prop
 | mk (x : _) (y : _) (h1 : vs = [.str x, .str y]) (h2 : y.length ≤ 1000) (h3 : Q (.bool (Txt.startswith x (y ++ Str.ofString "/"))) σ) : sp_is_beneath ns vs σ Q
inductive sp_all_paths (ns : List Int) (vs : List V) (σ : ai) (Q : V → ai → Prop) : Prop
 | mk (U : _) (a : _) (b : _) (c : _) (ka : _) (kb : _) (kc : _) (e1 : _) (e2 : _) (e3 : _) (h1 : vs = [.ref a, .ref b, .ref c]) (h2 : D3 U a b c ka kb kc e1 e2 e3 σ) (h3 : ∀ xs : List Str, (∀ x ∈ xs, x ∈ keysOf U) → xs.length ≤ 600 → eY (xs.map .str) σ Q) : sp_all_paths ns vs σ Q
inductive sp_marks (ns : List Int) (vs : List V) (σ : ai) (Q : V → ai → Prop) : Prop
 | mk (U : _) (a : _) (b : _) (c : _) (ka : _) (kb : _) (kc : _) (e1 : _) (e2 : _) (e3 : _) (h1 : vs = [.ref a, .ref b, .ref c]) (h2 : D3 U a b c ka kb kc e1 e2 e3 σ) (h3 : ∀ ws : List (Str × Str), (∀ q ∈ ws, q.2 ≠ Str.ofString "clash") → ws.length ≤ 600 → eY (ws.map fun q => .tup [.str q.1, .str q.2]) σ Q) : sp_marks ns vs σ Q
inductive sp_clashing (ns : List Int) (vs : List V) (σ : ai) (Q : V → ai → Prop) : Prop
 | mk (U : _) (a : _) (b : _) (c : _) (ka : _) (kb : _) (kc : _) (e1 : _) (e2 : _) (e3 : _) (h1 : vs = [.ref a, .ref b, .ref c]) (h2 : D3 U a b c ka kb kc e1 e2 e3 σ) (h3 : eY [] σ Q) : sp_clashing ns vs σ Q
inductive sp_standing (ns : List Int) (vs : List V) (σ : ai) (Q : V → ai → Prop) : Prop
 | mk (U : _) (a : _) (b : _) (c : _) (ka : _) (kb : _) (kc : _) (e1 : _) (e2 : _) (e3 : _) (h1 : vs = [.ref a, .ref b, .ref c]) (h2 : D3 U a b c ka kb kc e1 e2 e3 σ) (h3 : ∀ f kvs ep σ', Grow σ σ' → σ f = Option.none → σ' f = some (.dict kvs ep) → Inn U kvs → Q (.ref f) σ') : sp_standing ns vs σ Q
inductive sp_clashes (ns : List Int) (vs : List V) (σ : ai) (Q : V → ai → Prop) : Prop
 | mk (U : _) (a : _) (b : _) (c : _) (ka : _) (kb : _) (kc : _) (e1 : _) (e2 : _) (e3 : _) (h1 : vs = [.ref a, .ref b, .ref c]) (h2 : D3 U a b c ka kb kc e1 e2 e3 σ) (h3 : eY [] σ Q) : sp_clashes ns vs σ Q
inductive sp_joined (ns : List Int) (vs : List V) (σ : ai) (Q : V → ai → Prop) : Prop
 | mk (U : _) (a : _) (b : _) (c : _) (ka : _) (kb : _) (kc : _) (e1 : _) (e2 : _) (e3 : _) (p : _) (ep : _) (h1 : vs = [.ref a, .ref b, .ref c, .ref p]) (h2 : D3 U a b c ka kb kc e1 e2 e3 σ) (h3 : σ p = some (.dict [] ep)) (h4 : ∀ f kvs ep' σ', Grow σ σ' → σ f = Option.none → σ' f = some (.dict kvs ep') → Inn U kvs → Q (.ref f) σ') : sp_joined ns vs σ Q
inductive sp_done (ns : List Int) (vs : List V) (σ : ai) (Q : V → ai → Prop) : Prop
 | mk (U : _) (a : _) (kvs : _) (ep : _) (q : _) (h1 : vs = [.ref a, jz q]) (h2 : σ a = some (.dict kvs ep)) (h3 : Inn U kvs) (h4 : Un (U ++ pp [q])) (h5 : db q.1 = true) (h6 : ∀ b kvs' ep' σ', Grow σ σ' → σ b = Option.none → σ' b = some (.dict kvs' ep') → Inn (U ++ pp [q]) kvs' → Q (.ref b) σ') : sp_done ns vs σ Q
inductive sp_changed (ns : List Int) (vs : List V) (σ : ai) (Q : V → ai → Prop) : Prop
 | mk (U : _) (a : _) (L : _) (kvs : _) (ep : _) (dl : _) (h1 : vs = [.ref a, .ref L]) (h2 : σ a = some (.dict kvs ep)) (h3 : σ L = some (.list (dl.map jz))) (h4 : dl.length ≤ 1) (h5 : Inn U kvs) (h6 : Un (U ++ pp dl)) (h7 : (∀ q ∈ dl, db q.1 = true)) (h8 : ∀ b kvs' ep' σ', Grow σ σ' → σ b = Option.none → σ' b = some (.dict kvs' ep') → Inn (U ++ pp dl) kvs' → Q (.ref b) σ') : sp_changed ns vs σ Q
inductive sp___init__ (ns : List Int) (vs : List V) (σ : ai) (Q : V → ai → Prop) : Prop
 | mk (a : _) (dx : _) (h1 : vs = [.ref a]) (h2 : σ a = some (.inst dx)) (h3 : σ dx = some (.ns [])) (h4 : ∀ t mo d0 ep σ', lf [dx] σ σ' → σ' dx = some (.ns [("made_of", .ref mo), ("trees", .ref t)]) → σ' t = some (.list [.ref d0]) → σ' mo = some (.list [.tup []]) → σ' d0 = some (.dict [] ep) → t ≠ mo → σ t = Option.none → σ mo = Option.none → σ d0 = Option.none → Q .none σ') : sp___init__ ns vs σ Q
inductive sp_need (ns : List Int) (vs : List V) (σ : ai) (Q : V → ai → Prop) : Prop
 | mk (U : _) (b : _) (t : _) (mo : _) (ads : _) (ts : _) (ps : _) (n : _) (h1 : vs = [.ref b, .int n]) (h2 : BookAt U σ b t mo ads ts ps) (h3 : 0 ≤ n) (h4 : n < ts.length) (h5 : Q .none σ) : sp_need ns vs σ Q
inductive sp_many (ns : List Int) (vs : List V) (σ : ai) (Q : V → ai → Prop) : Prop
 | mk (U : _) (b : _) (t : _) (mo : _) (ads : _) (ts : _) (ps : _) (h1 : vs = [.ref b]) (h2 : BookAt U σ b t mo ads ts ps) (h3 : Q (.int ts.length) σ) : sp_many ns vs σ Q
inductive sp_parents (ns : List Int) (vs : List V) (σ : ai) (Q : V → ai → Prop) : Prop
 | mk (U : _) (b : _) (t : _) (mo : _) (ads : _) (ts : _) (ps : _) (n : _) (l : _) (h1 : vs = [.ref b, .int n]) (h2 : BookAt U σ b t mo ads ts ps) (h3 : 0 ≤ n) (h4 : ps[n.toNat]? = some l) (h5 : Q (.tup (l.map .int)) σ) : sp_parents ns vs σ Q
inductive sp_put_down (ns : List Int) (vs : List V) (σ : ai) (Q : V → ai → Prop) : Prop
 | mk (U : _) (b : _) (t : _) (mo : _) (ads : _) (ts : _) (ps : _) (d : _) (kvs : _) (ep : _) (l : _) (h1 : vs = [.ref b, .ref d, .tup (l.map .int)]) (h2 : BookAt U σ b t mo ads ts ps) (h3 : σ d = some (.dict kvs ep)) (h4 : Inn U kvs) (h5 : ts.length < 200) (h6 : l.length ≤ 2) (h7 : l ≠ []) (h8 : (∀ p ∈ l, 0 ≤ p ∧ p < (ts.length : Int))) (h9 : ∀ σ', lf [t, mo] σ σ' → BookAt U σ' b t mo (ads ++ [d]) (ts ++ [kvs]) (ps ++ [l]) → Q (.int ts.length) σ') : sp_put_down ns vs σ Q
inductive sp_grow (ns : List Int) (vs : List V) (σ : ai) (Q : V → ai → Prop) : Prop
 | mk (U : _) (b : _) (t : _) (mo : _) (ads : _) (ts : _) (ps : _) (n : _) (L : _) (dl : _) (h1 : vs = [.ref b, .int n, .ref L]) (h2 : BookAt U σ b t mo ads ts ps) (h3 : 0 ≤ n) (h4 : n < ts.length) (h5 : σ L = some (.list (dl.map jz))) (h6 : dl.length ≤ 1) (h7 : Un (U ++ pp dl)) (h8 : (∀ q ∈ dl, db q.1 = true)) (h9 : ts.length < 200) (h10 : ∀ d kvs σ', lf [t, mo] σ σ' → BookAt (U ++ pp dl) σ' b t mo (ads ++ [d]) (ts ++ [kvs]) (ps ++ [[n]]) → Q (.int ts.length) σ') : sp_grow ns vs σ Q
inductive sp_merge (ns : List Int) (vs : List V) (σ : ai) (Q : V → ai → Prop) : Prop
 | mk (U : _) (b : _) (t : _) (mo : _) (ads : _) (ts : _) (ps : _) (n : _) (m : _) (p : _) (ep : _) (h1 : vs = [.ref b, .int n, .int m, .ref p]) (h2 : BookAt U σ b t mo ads ts ps) (h3 : 0 ≤ n) (h4 : n < ts.length) (h5 : 0 ≤ m) (h6 : m < ts.length) (h7 : n ≠ m) (h8 : σ p = some (.dict [] ep)) (h9 : ts.length < 200) (h10 : ∀ d kvs σ', lf [t, mo] σ σ' → BookAt U σ' b t mo (ads ++ [d]) (ts ++ [kvs]) (ps ++ [[min n m, max n m]]) → Q (.int ts.length) σ') : sp_merge ns vs σ Q
inductive sp_elders (ns : List Int) (vs : List V) (σ : ai) (Q : V → ai → Prop) : Prop
 | mk (U : _) (b : _) (t : _) (mo : _) (ads : _) (ts : _) (ps : _) (n : _) (h1 : vs = [.ref b, .int n]) (h2 : BookAt U σ b t mo ads ts ps) (h3 : 0 ≤ n) (h4 : n < ts.length) (h5 : ∀ xs, Eld ps n xs → eY (xs.map .int) σ Q) : sp_elders ns vs σ Q
inductive sp_nearest (ns : List Int) (vs : List V) (σ : ai) (Q : V → ai → Prop) : Prop
 | mk (U : _) (b : _) (t : _) (mo : _) (ads : _) (ts : _) (ps : _) (n : _) (m : _) (h1 : vs = [.ref b, .int n, .int m]) (h2 : BookAt U σ b t mo ads ts ps) (h3 : 0 ≤ n) (h4 : n < ts.length) (h5 : 0 ≤ m) (h6 : m < ts.length) (h7 : ∀ M σ', Grow σ σ' → Anc ps n M → Anc ps m M → (∀ z, Anc ps n z → Anc ps m z → z ≤ M) → Q (.int M) σ') : sp_nearest ns vs σ Q
inductive sp_road (ns : List Int) (vs : List V) (σ : ai) (Q : V → ai → Prop) : Prop
 | mk (U : _) (b : _) (t : _) (mo : _) (ads : _) (ts : _) (ps : _) (e : _) (n : _) (h1 : vs = [.ref b, .int e, .int n]) (h2 : BookAt U σ b t mo ads ts ps) (h3 : 0 ≤ e) (h4 : e < ts.length) (h5 : 0 ≤ n) (h6 : n < ts.length) (h7 : (¬ Anc ps n e → ∀ σ', Grow σ σ' → Q .none σ')) (h8 : ∀ r, Road ps e n r → r.length ≤ 200 → eY (r.map .int) σ Q) : sp_road ns vs σ Q
inductive sp__law_whole (ns : List Int) (vs : List V) (σ : ai) (Q : V → ai → Prop) : Prop
 | mk (n : _) (h1 : vs = [.int n]) (h2 : Q (.bool true) σ) : sp__law_whole ns vs σ Q
inductive sp__law_cell_at (ns : List Int) (vs : List V) (σ : ai) (Q : V → ai → Prop) : Prop
 | mk (k : _) (h1 : vs = [.script, .int k]) (h2 : 0 ≤ k) (h3 : Q (.int (cell ns k)) σ) : sp__law_cell_at ns vs σ Q
inductive sp__law_are_whole (ns : List Int) (vs : List V) (σ : ai) (Q : V → ai → Prop) : Prop
 | mk (v : _) (l : _) (h1 : vs = [v]) (h2 : (v = .tup (List.map V.int l) ∨ ∃ a, v = .ref a ∧ σ a = some (.list (List.map V.int l)))) (h3 : l.length ≤ 1000) (h4 : ∀ σ', Grow σ σ' → Q (.bool true) σ') : sp__law_are_whole ns vs σ Q
inductive sp__law_elders_by (ns : List Int) (vs : List V) (σ : ai) (Q : V → ai → Prop) : Prop
 | mk (o : _) (ps : _) (n : _) (h1 : vs = [.ref o, .int n]) (h2 : σ o = some (.list (bn ps))) (h3 : Ord ps) (h4 : 0 ≤ n) (h5 : n < ps.length) (h6 : ∀ xs, Eld ps n xs → eY (xs.map .int) σ Q) : sp__law_elders_by ns vs σ Q
inductive sp__law_deed (ns : List Int) (vs : List V) (σ : ai) (Q : V → ai → Prop) : Prop
 | mk (U : _) (b : _) (t : _) (mo : _) (ads : _) (ts : _) (ps : _) (o : _) (c : _) (h1 : vs = [.ref b, .ref o, .int c]) (h2 : BookAt U σ b t mo ads ts ps) (h3 : σ o = some (.list (bn ps))) (h4 : o ≠ t) (h5 : o ≠ mo) (h6 : Vs ts.length U) (h7 : ts.length < 200) (h8 : ∀ U' d kvs l σ', lf [t, mo, o] σ σ' → BookAt U' σ' b t mo (ads ++ [d]) (ts ++ [kvs]) (ps ++ [l]) → σ' o = some (.list (bn (ps ++ [l]))) → Vs (ts.length + 1) U' → Q (.bool true) σ') : sp__law_deed ns vs σ Q
inductive sp__law_is_road (ns : List Int) (vs : List V) (σ : ai) (Q : V → ai → Prop) : Prop
 | mk (r : _) (o : _) (ps : _) (e : _) (n : _) (row : _) (h1 : vs = [.ref r, .ref o, .int e, .int n]) (h2 : σ r = some (.list (row.map .int))) (h3 : σ o = some (.list (bn ps))) (h4 : Ord ps) (h5 : Road ps e n row) (h6 : 0 ≤ e) (h7 : 0 ≤ n) (h8 : n < ps.length) (h9 : row.length ≤ 200) (h10 : ∀ σ', Grow σ σ' → Q (.bool true) σ') : sp__law_is_road ns vs σ Q
inductive sp__law_came_of (ns : List Int) (vs : List V) (σ : ai) (Q : V → ai → Prop) : Prop
 | mk (o : _) (ps : _) (e : _) (h1 : vs = [.ref o, .int e]) (h2 : σ o = some (.list (bn ps))) (h3 : Ord ps) (h4 : 0 ≤ e) (h5 : e < ps.length) (h6 : ∀ bs : List Bool, bs.length = ps.length → (∀ (k : Nat) c, bs[k]? = some c → (c = true ↔ Anc ps k e)) → eY (bs.map .bool) σ Q) : sp__law_came_of ns vs σ Q
inductive sp__law_nearest_holds (ns : List Int) (vs : List V) (σ : ai) (Q : V → ai → Prop) : Prop
 | mk (U : _) (b : _) (t : _) (mo : _) (ads : _) (ts : _) (ps : _) (o : _) (n : _) (m : _) (h1 : vs = [.ref b, .ref o, .int n, .int m]) (h2 : BookAt U σ b t mo ads ts ps) (h3 : σ o = some (.list (bn ps))) (h4 : 0 ≤ n) (h5 : n < ts.length) (h6 : 0 ≤ m) (h7 : m < ts.length) (h8 : ∀ σ', Grow σ σ' → Q (.bool true) σ') : sp__law_nearest_holds ns vs σ Q
inductive sp__law_holds (ns : List Int) (vs : List V) (σ : ai) (Q : V → ai → Prop) : Prop
 | mk (U : _) (b : _) (t : _) (mo : _) (ads : _) (ts : _) (ps : _) (o : _) (n : _) (m : _) (k : _) (h1 : vs = [.ref b, .ref o, .int k, .int n, .int m]) (h2 : BookAt U σ b t mo ads ts ps) (h3 : σ o = some (.list (bn ps))) (h4 : 0 ≤ n) (h5 : n < ts.length) (h6 : 0 ≤ m) (h7 : m < ts.length) (h8 : 0 ≤ k) (h9 : k < ts.length) (h10 : ∀ σ', Grow σ σ' → Q (.bool true) σ') : sp__law_holds ns vs σ Q
inductive sp__law_asked (ns : List Int) (vs : List V) (σ : ai) (Q : V → ai → Prop) : Prop
 | mk (U : _) (b : _) (t : _) (mo : _) (ads : _) (ts : _) (ps : _) (o : _) (q : _) (n : _) (m : _) (k : _) (h1 : vs = [.ref b, .ref o, .ref q]) (h2 : BookAt U σ b t mo ads ts ps) (h3 : σ o = some (.list (bn ps))) (h4 : σ q = some (.list [.int k, .int n, .int m])) (h5 : 0 ≤ n) (h6 : n < ts.length) (h7 : 0 ≤ m) (h8 : m < ts.length) (h9 : 0 ≤ k) (h10 : k < ts.length) (h11 : ∀ σ', Grow σ σ' → Q (.bool true) σ') : sp__law_asked ns vs σ Q
noncomputable def l4 (_ns : List Int) : b7 := uG
end Mine
end
noncomputable section
set_option maxRecDepth 100000
set_option maxHeartbeats 4000000
namespace Mine
open PySem PySem.W PyProof.Rows PySem.Calls
theorem cL : a9 "trees" := by unfold a9; rw [typeLookup_type, builtinLookup_eq_fast]; kernel_rfl
theorem dN : a9 "made_of" := by unfold a9; rw [typeLookup_type, builtinLookup_eq_fast]; kernel_rfl
theorem eX : a9 "need" := by unfold a9; rw [typeLookup_type, builtinLookup_eq_fast]; kernel_rfl
theorem qx : a9 "many" := by unfold a9; rw [typeLookup_type, builtinLookup_eq_fast]; kernel_rfl
theorem pL : a9 "parents" := by unfold a9; rw [typeLookup_type, builtinLookup_eq_fast]; kernel_rfl
theorem jd : a9 "put_down" := by unfold a9; rw [typeLookup_type, builtinLookup_eq_fast]; kernel_rfl
theorem qy : a9 "grow" := by unfold a9; rw [typeLookup_type, builtinLookup_eq_fast]; kernel_rfl
theorem su : a9 "merge" := by unfold a9; rw [typeLookup_type, builtinLookup_eq_fast]; kernel_rfl
theorem gl : a9 "elders" := by unfold a9; rw [typeLookup_type, builtinLookup_eq_fast]; kernel_rfl
theorem gS : a9 "nearest" := by unfold a9; rw [typeLookup_type, builtinLookup_eq_fast]; kernel_rfl
theorem jE : a9 "road" := by unfold a9; rw [typeLookup_type, builtinLookup_eq_fast]; kernel_rfl
noncomputable def js (ns : List Int) : ST :=
 (dz (gg (aH (aB bR (ae "text") (aE (.str (Str.ofString "."))))) (gg (aH (aB bR (ae "text") (aE (.str (Str.ofString ".."))))) (gg (dq (nF ri ri (aE (.int 1)) (az (bh ns) (ah (ae "text") av)) (aE (.int 12)))) tF))) (an (bC (aE (.bool false)))
 aw) aw)
noncomputable def fZ (ns : List Int) : ST :=
 (ch (.name "sign") (fR ns (ae "text")) (an (dz (aH (aB j0 (ae "sign") (aE (.str (Str.ofString "abcdefghijklmnopqrstuvwxyzABCDEFGHIJKLMNOPQRSTUVWXYZ0123456789.-_"))))) (an (bC (aE (.bool false)))
 aw) aw)
 aw))
noncomputable def fY (ns : List Int) : ST :=
 (bC (aE (.bool true)))
noncomputable def gw (ns : List Int) : ST := (an (js ns) (an (fZ ns) (an (fY ns) aw)))
theorem rL {C : Cx} (G : Gl C Hd.vw) (hz : C.held = none) (g_LONGEST_PART : GInt C "LONGEST_PART" 12) (g_SIGNS : GStr C "SIGNS" (Str.ofString "abcdefghijklmnopqrstuvwxyzABCDEFGHIJKLMNOPQRSTUVWXYZ0123456789.-_"))  : HS C (aW Hd.vw 12) 0 (bF Hd.vw 12) (gw C.ns) :=
 (ag (aQ (bB (bu (aT ce (ac rfl rfl) c9 rfl) (bu (aT ce (ac rfl rfl) c9 rfl) (bu (b8 (nv qB qB aL (be G rfl (af (ac rfl rfl) aj rfl) rfl) (qU G.ok rfl g_LONGEST_PART rfl) rfl)) bX)))) (ag (aG bc)
 am) am)
 (ag (a7 (aP rfl) (bL G.ok hz (ac rfl rfl)) (ag (aQ (aT rm (ac rfl rfl) (uA G.ok rfl g_SIGNS rfl) rfl) (ag (aG bc)
 am) am)
 am) (fun _ _ => rfl))
 (ag (aG bc)
 am)))
theorem rD {C : Cx} (G : Gl C Hd.vw) (hz : C.held = none) (g_LONGEST_PART : GInt C "LONGEST_PART" 12) (g_SIGNS : GStr C "SIGNS" (Str.ofString "abcdefghijklmnopqrstuvwxyzABCDEFGHIJKLMNOPQRSTUVWXYZ0123456789.-_"))  (hspec : ∀ vs σ Q, sp_is_part C.ns vs σ Q → vs.length = 1 ∧ gw C.ns (aF ["text"] vs aN) σ (fin Q)) : FnAt C 0 "is_part" (sp_is_part C.ns) :=
 FnAt.mk (xs := ["text"]) G 1 12 rfl rfl rfl rfl rfl (fun ws pm code doc h => by
  obtain ⟨w0, rfl⟩ := mu h
  rfl) rfl (rL G hz g_LONGEST_PART g_SIGNS ) hspec
noncomputable def jr (ns : List Int) : ST :=
 (bi "parts" (br hZ ii (ae "text") (ah (aE (.str (Str.ofString "/"))) av)))
noncomputable def jq (ns : List Int) : ST :=
 (dz (aH (aB sr (az (bh ns) (ah (ae "parts") av)) (aE (.int 8)))) (an (bC (aE (.bool false)))
 aw) aw)
noncomputable def jp (ns : List Int) : ST :=
 (ch (.name "part") (fR ns (ae "parts")) (an (dz (dq (aH (az (sp_is_part ns) (ah (ae "part") av)))) (an (bC (aE (.bool false)))
 aw) aw)
 aw))
noncomputable def jo (ns : List Int) : ST :=
 (bC (aE (.bool true)))
noncomputable def gv (ns : List Int) : ST := (an (jr ns) (an (jq ns) (an (jp ns) (an (jo ns) aw))))
theorem rK {C : Cx} (G : Gl C Hd.vw) (hz : C.held = none) (g_MOST_PARTS : GInt C "MOST_PARTS" 8) (h_is_part : FnAt C 0 "is_part" (sp_is_part C.ns)) : HS C (aW Hd.vw 13) 1 (bF Hd.vw 13) (gv C.ns) :=
 (ag (aJ (.inl rfl) (pe (ac rfl rfl) (af c9 aj rfl) rfl (fun _ => rfl) rfl (by decide)) (fun _ _ => rfl))
 (ag (aQ (aT sA (be G rfl (af (ac rfl rfl) aj rfl) rfl) (qU G.ok rfl g_MOST_PARTS rfl) rfl) (ag (aG bc)
 am) am)
 (ag (a7 (aP rfl) (bL G.ok hz (ac rfl rfl)) (ag (aQ (b8 (bM (aA G h_is_part (by decide) rfl rfl (af (ac rfl rfl) aj rfl) rfl) (fun _ _ => rfl))) (ag (aG bc)
 am) am)
 am) (fun _ _ => rfl))
 (ag (aG bc)
 am))))
theorem rC {C : Cx} (G : Gl C Hd.vw) (hz : C.held = none) (g_MOST_PARTS : GInt C "MOST_PARTS" 8) (h_is_part : FnAt C 0 "is_part" (sp_is_part C.ns)) (hspec : ∀ vs σ Q, sp_is_path C.ns vs σ Q → vs.length = 1 ∧ gv C.ns (aF ["text"] vs aN) σ (fin Q)) : FnAt C 1 "is_path" (sp_is_path C.ns) :=
 FnAt.mk (xs := ["text"]) G 2 13 rfl rfl rfl rfl rfl (fun ws pm code doc h => by
  obtain ⟨w0, rfl⟩ := mu h
  rfl) rfl (rK G hz g_MOST_PARTS h_is_part) hspec
noncomputable def lQ (ns : List Int) : ST :=
 (bi "parts" (br hZ ii (ae "path") (ah (aE (.str (Str.ofString "/"))) av)))
noncomputable def lP (ns : List Int) : ST :=
 (bC (dm ["parts"] (.name "size") (cz (ah (aE (.int 1)) (ah (az (bh ns) (ah (ae "parts") av)) av))) tT (br hZ pD (aE (.str (Str.ofString "/"))) (ah (ug ns (ae "parts") sk (nR (ae "size"))) av))))
noncomputable def jO (ns : List Int) : ST := (an (lQ ns) (an (lP ns) aw))
theorem uq {C : Cx} (G : Gl C Hd.vw) (hz : C.held = none)   : HS C (aW Hd.vw 14) 0 (bF Hd.vw 14) (jO C.ns) :=
 (ag (aJ (.inr rfl) (pe (ac rfl rfl) (af c9 aj rfl) rfl (fun _ => rfl) rfl (by decide)) (fun _ _ => rfl))
 (ag (aG (ee (CompOk.of rfl) (du G hz rfl (af aL (af (be G rfl (af (aM rfl rfl) aj rfl) rfl) aj rfl) rfl) rfl) (aP rfl) fw (uz c9 (af (tz G.ok (aM rfl rfl) uw (nq (ac rfl rfl))) aj rfl) rfl (fun _ => rfl) rfl (by decide)) (fun _ _ => rfl)))
 am))
theorem uf {C : Cx} (G : Gl C Hd.vw) (hz : C.held = none)   (hspec : ∀ vs σ Q, sp_above C.ns vs σ Q → vs.length = 1 ∧ jO C.ns (aF ["path"] vs aN) σ (fin Q)) : FnAt C 0 "above" (sp_above C.ns) :=
 FnAt.mk (xs := ["path"]) G 3 14 rfl rfl rfl rfl rfl (fun ws pm code doc h => by
  obtain ⟨w0, rfl⟩ := mu h
  rfl) rfl (uq G hz  ) hspec
noncomputable def f3 (ns : List Int) : ST :=
 (bC (br hZ ig (ae "path") (ah (aB fE (ae "upper") (aE (.str (Str.ofString "/")))) av)))
noncomputable def dA (ns : List Int) : ST := (an (f3 ns) aw)
theorem mS {C : Cx} (G : Gl C Hd.vw) (hz : C.held = none)   : HS C (aW Hd.vw 15) 0 (bF Hd.vw 15) (dA C.ns) :=
 (ag (aG (rQ (ac rfl rfl) (af (bf fP (ac rfl rfl) c9) aj rfl) rfl (fun _ => rfl) rfl (by decide)))
 am)
theorem mG {C : Cx} (G : Gl C Hd.vw) (hz : C.held = none)   (hspec : ∀ vs σ Q, sp_is_beneath C.ns vs σ Q → vs.length = 2 ∧ dA C.ns (aF ["path", "upper"] vs aN) σ (fin Q)) : FnAt C 0 "is_beneath" (sp_is_beneath C.ns) :=
 FnAt.mk (xs := ["path", "upper"]) G 4 15 rfl rfl rfl rfl rfl (fun ws pm code doc h => by
  obtain ⟨w0, w1, rfl⟩ := k8 h
  rfl) rfl (mS G hz  ) hspec
noncomputable def gI (ns : List Int) : ST :=
 (bi "found" gV)
noncomputable def gH (ns : List Int) : ST :=
 (ch (.name "tree") (fR ns (cq (ah (ae "elder") (ah (ae "one") (ah (ae "other") av))))) (an (ch (.name "path") (fR ns (ae "tree")) (an (bI kZ (aE (.bool true)) (ae "found") (ae "path"))
 aw))
 aw))
noncomputable def gG (ns : List Int) : ST :=
 (bC (p6 (ae "found")))
noncomputable def d7 (ns : List Int) : ST := (an (gI ns) (an (gH ns) (an (gG ns) aw)))
theorem oM {C : Cx} (G : Gl C Hd.vw) (hz : C.held = none)   : HS C (aW Hd.vw 16) 0 (bF Hd.vw 16) (d7 C.ns) :=
 (ag (aJ (.inl rfl) gf (fun _ _ => rfl))
 (ag (a7 (aP rfl) (bL G.ok hz (bU (af (ac rfl rfl) (af (ac rfl rfl) (af (ac rfl rfl) aj rfl) rfl) rfl))) (ag (a7 (aP rfl) (bL G.ok hz (ac rfl rfl)) (ag (bG iq bc (ac rfl rfl) (ac rfl rfl) (fun _ _ => rfl))
 am) (fun _ _ => rfl))
 am) (fun _ _ => rfl))
 (ag (aG (lg G hz rfl (ac rfl rfl) (fun _ => rfl) rfl))
 am)))
theorem oq {C : Cx} (G : Gl C Hd.vw) (hz : C.held = none)   (hspec : ∀ vs σ Q, sp_all_paths C.ns vs σ Q → vs.length = 3 ∧ d7 C.ns (aF ["elder", "one", "other"] vs aN) σ (fin Q)) : FnAt C 0 "all_paths" (sp_all_paths C.ns) :=
 FnAt.mk (xs := ["elder", "one", "other"]) G 5 16 rfl rfl rfl rfl rfl (fun ws pm code doc h => by
  obtain ⟨w0, w1, w2, rfl⟩ := jA h
  rfl) rfl (oM G hz  ) hspec
noncomputable def lO (ns : List Int) : ST :=
 (bi "told" (cq av))
noncomputable def lM (ns : List Int) : ST :=
 (ch (.name "path") (fR ns (az (sp_all_paths ns) (ah (ae "elder") (ah (ae "one") (ah (ae "other") av))))) (an (bi "was" (br cy fK (ae "elder") (ah (ae "path") av)))
 (an (bi "mine" (br cy fK (ae "one") (ah (ae "path") av)))
 (an (bi "theirs" (br cy fK (ae "other") (ah (ae "path") av)))
 (an (dz (aH (aB bR (ae "mine") (ae "theirs"))) (an (dz (aH (aB dv (ae "mine") (ae "was"))) (an (bO (br bN bq (ae "told") (ah (fg (ah (ae "path") (ah (aE (.str (Str.ofString "alike"))) av))) av)))
 aw) aw)
 aw) (an (dz (aH (aB bR (ae "theirs") (ae "was"))) (an (bO (br bN bq (ae "told") (ah (fg (ah (ae "path") (ah (aE (.str (Str.ofString "one"))) av))) av)))
 aw) (an (dz (aH (aB bR (ae "mine") (ae "was"))) (an (bO (br bN bq (ae "told") (ah (fg (ah (ae "path") (ah (aE (.str (Str.ofString "other"))) av))) av)))
 aw) (an (bO (br bN bq (ae "told") (ah (fg (ah (ae "path") (ah (aE (.str (Str.ofString "clash"))) av))) av)))
 aw))
 aw))
 aw))
 aw)))))
noncomputable def lL (ns : List Int) : ST :=
 (bC (ae "told"))
noncomputable def jN (ns : List Int) : ST := (an (lO ns) (an (lM ns) (an (lL ns) aw)))
theorem uo {C : Cx} (G : Gl C Hd.vw) (hz : C.held = none)  (h_all_paths : FnAt C 0 "all_paths" (sp_all_paths C.ns)) : HS C (aW Hd.vw 17) 1 (bF Hd.vw 17) (jN C.ns) :=
 (ag (aJ (.inl rfl) (bU aj) (fun _ _ => rfl))
 (ag (a7 (aP rfl) (bL G.ok hz (aA G h_all_paths (by decide) rfl rfl (af (ac rfl rfl) (af (ac rfl rfl) (af (ac rfl rfl) aj rfl) rfl) rfl) rfl)) (ag (aJ (.inl rfl) (fC G (ac rfl rfl) (af (ac rfl rfl) aj rfl) rfl (fun _ => rfl) rfl (by decide)) (fun _ _ => rfl))
 (ag (aJ (.inl rfl) (fC G (ac rfl rfl) (af (ac rfl rfl) aj rfl) rfl (fun _ => rfl) rfl (by decide)) (fun _ _ => rfl))
 (ag (aJ (.inl rfl) (fC G (ac rfl rfl) (af (ac rfl rfl) aj rfl) rfl (fun _ => rfl) rfl (by decide)) (fun _ _ => rfl))
 (ag (aQ (aT ce (ac rfl rfl) (ac rfl rfl) rfl) (ag (aQ (aT gT (ac rfl rfl) (ac rfl rfl) rfl) (ag (ba (bW (ac rfl rfl) (af (c8 (af (ac rfl rfl) (af c9 aj rfl) rfl)) aj rfl) rfl (fun _ => rfl) rfl (by decide)) (fun _ _ => rfl))
 am) am)
 am) (ag (aQ (aT ce (ac rfl rfl) (ac rfl rfl) rfl) (ag (ba (bW (ac rfl rfl) (af (c8 (af (ac rfl rfl) (af c9 aj rfl) rfl)) aj rfl) rfl (fun _ => rfl) rfl (by decide)) (fun _ _ => rfl))
 am) (ag (aQ (aT ce (ac rfl rfl) (ac rfl rfl) rfl) (ag (ba (bW (ac rfl rfl) (af (c8 (af (ac rfl rfl) (af c9 aj rfl) rfl)) aj rfl) rfl (fun _ => rfl) rfl (by decide)) (fun _ _ => rfl))
 am) (ag (ba (bW (ac rfl rfl) (af (c8 (af (ac rfl rfl) (af c9 aj rfl) rfl)) aj rfl) rfl (fun _ => rfl) rfl (by decide)) (fun _ _ => rfl))
 am))
 am))
 am))
 am)))) (fun _ _ => rfl))
 (ag (aG (ac rfl rfl))
 am)))
theorem ue {C : Cx} (G : Gl C Hd.vw) (hz : C.held = none)  (h_all_paths : FnAt C 0 "all_paths" (sp_all_paths C.ns)) (hspec : ∀ vs σ Q, sp_marks C.ns vs σ Q → vs.length = 3 ∧ jN C.ns (aF ["elder", "one", "other"] vs aN) σ (fin Q)) : FnAt C 1 "marks" (sp_marks C.ns) :=
 FnAt.mk (xs := ["elder", "one", "other"]) G 6 17 rfl rfl rfl rfl rfl (fun ws pm code doc h => by
  obtain ⟨w0, w1, w2, rfl⟩ := jA h
  rfl) rfl (uo G hz  h_all_paths) hspec
noncomputable def iI (ns : List Int) : ST :=
 (bC (dm [] (.tup ["path", "word"]) (fR ns (az (sp_marks ns) (ah (ae "elder") (ah (ae "one") (ah (ae "other") av))))) (aH (aB bR (ae "word") (aE (.str (Str.ofString "clash"))))) (ae "path")))
noncomputable def fp (ns : List Int) : ST := (an (iI ns) aw)
theorem qb {C : Cx} (G : Gl C Hd.vw) (hz : C.held = none)  (h_marks : FnAt C 1 "marks" (sp_marks C.ns)) : HS C (aW Hd.vw 18) 2 (bF Hd.vw 18) (fp C.ns) :=
 (ag (aG (ee (CompOk.of rfl) (bL G.ok hz (aA G h_marks (by decide) rfl rfl (af (ac rfl rfl) (af (ac rfl rfl) (af (ac rfl rfl) aj rfl) rfl) rfl) rfl)) (wd G.ok (l := [("path", _), ("word", _)]) (by decide)) (fu (aT ce (ac rfl rfl) c9 rfl)) (ac rfl rfl) (fun _ _ => rfl)))
 am)
theorem pZ {C : Cx} (G : Gl C Hd.vw) (hz : C.held = none)  (h_marks : FnAt C 1 "marks" (sp_marks C.ns)) (hspec : ∀ vs σ Q, sp_clashing C.ns vs σ Q → vs.length = 3 ∧ fp C.ns (aF ["elder", "one", "other"] vs aN) σ (fin Q)) : FnAt C 2 "clashing" (sp_clashing C.ns) :=
 FnAt.mk (xs := ["elder", "one", "other"]) G 7 18 rfl rfl rfl rfl rfl (fun ws pm code doc h => by
  obtain ⟨w0, w1, w2, rfl⟩ := jA h
  rfl) rfl (qb G hz  h_marks) hspec
noncomputable def iC (ns : List Int) : ST :=
 (bi "away" (az (sp_clashing ns) (ah (ae "elder") (ah (ae "one") (ah (ae "other") av)))))
noncomputable def iB (ns : List Int) : ST :=
 (bi "found" gV)
noncomputable def iA (ns : List Int) : ST :=
 (ch (.name "path") (fR ns (az (sp_all_paths ns) (ah (ae "elder") (ah (ae "one") (ah (ae "other") av))))) (an (bi "text" (br cy fK (ae "one") (ah (ae "path") av)))
 (an (dz (aH (aB bR (br cy fK (ae "one") (ah (ae "path") av)) (br cy fK (ae "elder") (ah (ae "path") av)))) (an (bi "text" (br cy fK (ae "other") (ah (ae "path") av)))
 aw) aw)
 (an (dz (ie (aH (aB dL (ae "path") (ae "away"))) (ie (aH (aB gj (ae "text") (aE .none))) tT)) (an (bI kZ (ae "text") (ae "found") (ae "path"))
 aw) aw)
 aw))))
noncomputable def iz (ns : List Int) : ST :=
 (bC (ae "found"))
noncomputable def fi (ns : List Int) : ST := (an (iC ns) (an (iB ns) (an (iA ns) (an (iz ns) aw))))
theorem p9 {C : Cx} (G : Gl C Hd.vw) (hz : C.held = none)  (h_clashing : FnAt C 2 "clashing" (sp_clashing C.ns)) (h_all_paths : FnAt C 0 "all_paths" (sp_all_paths C.ns)) : HS C (aW Hd.vw 19) 3 (bF Hd.vw 19) (fi C.ns) :=
 (ag (aJ (.inl rfl) (aA G h_clashing (by decide) rfl rfl (af (ac rfl rfl) (af (ac rfl rfl) (af (ac rfl rfl) aj rfl) rfl) rfl) rfl) (fun _ _ => rfl))
 (ag (aJ (.inl rfl) gf (fun _ _ => rfl))
 (ag (a7 (aP rfl) (bL G.ok hz (aA G h_all_paths (by decide) rfl rfl (af (ac rfl rfl) (af (ac rfl rfl) (af (ac rfl rfl) aj rfl) rfl) rfl) rfl)) (ag (aJ (.inl rfl) (fC G (ac rfl rfl) (af (ac rfl rfl) aj rfl) rfl (fun _ => rfl) rfl (by decide)) (fun _ _ => rfl))
 (ag (aQ (aT ce (fC G (ac rfl rfl) (af (ac rfl rfl) aj rfl) rfl (fun _ => rfl) rfl (by decide)) (fC G (ac rfl rfl) (af (ac rfl rfl) aj rfl) rfl (fun _ => rfl) rfl (by decide)) rfl) (ag (aJ (.inl rfl) (fC G (ac rfl rfl) (af (ac rfl rfl) aj rfl) rfl (fun _ => rfl) rfl (by decide)) (fun _ _ => rfl))
 am) am)
 (ag (aQ (bB (eg (aT gm (ac rfl rfl) (ac rfl rfl) rfl) (eg (aT nV (ac rfl rfl) jP rfl) fD))) (ag (bG iq (ac rfl rfl) (ac rfl rfl) (ac rfl rfl) (fun _ _ => rfl))
 am) am)
 am))) (fun _ _ => rfl))
 (ag (aG (ac rfl rfl))
 am))))
theorem pX {C : Cx} (G : Gl C Hd.vw) (hz : C.held = none)  (h_clashing : FnAt C 2 "clashing" (sp_clashing C.ns)) (h_all_paths : FnAt C 0 "all_paths" (sp_all_paths C.ns)) (hspec : ∀ vs σ Q, sp_standing C.ns vs σ Q → vs.length = 3 ∧ fi C.ns (aF ["elder", "one", "other"] vs aN) σ (fin Q)) : FnAt C 3 "standing" (sp_standing C.ns) :=
 FnAt.mk (xs := ["elder", "one", "other"]) G 8 19 rfl rfl rfl rfl rfl (fun ws pm code doc h => by
  obtain ⟨w0, w1, w2, rfl⟩ := jA h
  rfl) rfl (p9 G hz  h_clashing h_all_paths) hspec
noncomputable def jw (ns : List Int) : ST :=
 (bi "told" (dm [] (.name "path") (fR ns (az (sp_clashing ns) (ah (ae "elder") (ah (ae "one") (ah (ae "other") av))))) tT (fg (ah (ae "path") av))))
noncomputable def jv (ns : List Int) : ST :=
 (bi "files" (az (sp_standing ns) (ah (ae "elder") (ah (ae "one") (ah (ae "other") av)))))
noncomputable def ju (ns : List Int) : ST :=
 (ch (.name "path") (fR ns (ae "files")) (an (ch (.name "folder") (fR ns (az (sp_above ns) (ah (ae "path") av))) (an (dz (aH (aB qw (ae "folder") (ae "files"))) (an (bO (br bN bq (ae "told") (ah (fg (ah (ae "folder") (ah (ae "path") av))) av)))
 aw) aw)
 aw))
 aw))
noncomputable def jt (ns : List Int) : ST :=
 (bC (az ij (ah (ae "told") av)))
noncomputable def gy (ns : List Int) : ST := (an (jw ns) (an (jv ns) (an (ju ns) (an (jt ns) aw))))
theorem rM {C : Cx} (G : Gl C Hd.vw) (hz : C.held = none)  (h_clashing : FnAt C 2 "clashing" (sp_clashing C.ns)) (h_standing : FnAt C 3 "standing" (sp_standing C.ns)) (h_above : FnAt C 0 "above" (sp_above C.ns)) : HS C (aW Hd.vw 20) 4 (bF Hd.vw 20) (gy C.ns) :=
 (ag (cG (CompOk.of rfl) (bL G.ok hz (aA G h_clashing (by decide) rfl rfl (af (ac rfl rfl) (af (ac rfl rfl) (af (ac rfl rfl) aj rfl) rfl) rfl) rfl)) (aP rfl) fw (c8 (af (ac rfl rfl) aj rfl)) (fun _ _ => rfl) rfl (cA rfl rfl rfl))
 (ag (aJ (.inl rfl) (aA G h_standing (by decide) rfl rfl (af (ac rfl rfl) (af (ac rfl rfl) (af (ac rfl rfl) aj rfl) rfl) rfl) rfl) (fun _ _ => rfl))
 (ag (a7 (aP rfl) (bL G.ok hz (ac rfl rfl)) (ag (a7 (aP rfl) (bL G.ok hz (aA G h_above (by decide) rfl rfl (af (ac rfl rfl) aj rfl) rfl)) (ag (aQ (aT (pM G.ok) (ac rfl rfl) (ac rfl rfl) rfl) (ag (ba (bW (ac rfl rfl) (af (c8 (af (ac rfl rfl) (af (ac rfl rfl) aj rfl) rfl)) aj rfl) rfl (fun _ => rfl) rfl (by decide)) (fun _ _ => rfl))
 am) am)
 am) (fun _ _ => rfl))
 am) (fun _ _ => rfl))
 (ag (aG (qg G hz rfl (af (ac rfl rfl) aj rfl) rfl))
 am))))
theorem rE {C : Cx} (G : Gl C Hd.vw) (hz : C.held = none)  (h_clashing : FnAt C 2 "clashing" (sp_clashing C.ns)) (h_standing : FnAt C 3 "standing" (sp_standing C.ns)) (h_above : FnAt C 0 "above" (sp_above C.ns)) (hspec : ∀ vs σ Q, sp_clashes C.ns vs σ Q → vs.length = 3 ∧ gy C.ns (aF ["elder", "one", "other"] vs aN) σ (fin Q)) : FnAt C 4 "clashes" (sp_clashes C.ns) :=
 FnAt.mk (xs := ["elder", "one", "other"]) G 9 20 rfl rfl rfl rfl rfl (fun ws pm code doc h => by
  obtain ⟨w0, w1, w2, rfl⟩ := jA h
  rfl) rfl (rM G hz  h_clashing h_standing h_above) hspec
noncomputable def kW (ns : List Int) : ST :=
 (bi "known" gV)
noncomputable def kU (ns : List Int) : ST :=
 (ch (.name "clash") (fR ns (az (sp_clashes ns) (ah (ae "elder") (ah (ae "one") (ah (ae "other") av))))) (an (ch (.name "path") (fR ns (ae "clash")) (an (bI kZ (aE (.bool true)) (ae "known") (ae "path"))
 aw))
 aw))
noncomputable def kT (ns : List Int) : ST :=
 (ch (.name "path") (fR ns (ae "picks")) (an (dz (aH (aB im (ae "path") (ae "known"))) (an eh
 aw) aw)
 aw))
noncomputable def kS (ns : List Int) : ST :=
 (ch (.name "path") (fR ns (az (sp_clashing ns) (ah (ae "elder") (ah (ae "one") (ah (ae "other") av))))) (an (dz (aH (aB im (ae "path") (ae "picks"))) (an eh
 aw) aw)
 aw))
noncomputable def kR (ns : List Int) : ST :=
 (bi "files" (az (sp_standing ns) (ah (ae "elder") (ah (ae "one") (ah (ae "other") av)))))
noncomputable def kQ (ns : List Int) : ST :=
 (ch (.name "path") (fR ns (ae "picks")) (an (dz (aH (aB gj (aB jD (ae "picks") (ae "path")) (aE .none))) (an (bI kZ (aB jD (ae "picks") (ae "path")) (ae "files") (ae "path"))
 aw) (an (dz (aH (aB qw (ae "path") (ae "files"))) (an (bO (br cy qo (ae "files") (ah (ae "path") av)))
 aw) aw)
 aw))
 aw))
noncomputable def kP (ns : List Int) : ST :=
 (ch (.name "path") (fR ns (ae "files")) (an (ch (.name "folder") (fR ns (az (sp_above ns) (ah (ae "path") av))) (an (dz (aH (aB qw (ae "folder") (ae "files"))) (an eh
 aw) aw)
 aw))
 aw))
noncomputable def kO (ns : List Int) : ST :=
 (bC (ae "files"))
noncomputable def iG (ns : List Int) : ST := (an (kW ns) (an (kU ns) (an (kT ns) (an (kS ns) (an (kR ns) (an (kQ ns) (an (kP ns) (an (kO ns) aw))))))))
theorem tp {C : Cx} (G : Gl C Hd.vw) (hz : C.held = none)  (h_clashes : FnAt C 4 "clashes" (sp_clashes C.ns)) (h_clashing : FnAt C 2 "clashing" (sp_clashing C.ns)) (h_standing : FnAt C 3 "standing" (sp_standing C.ns)) (h_above : FnAt C 0 "above" (sp_above C.ns)) : HS C (aW Hd.vw 21) 5 (bF Hd.vw 21) (iG C.ns) :=
 (ag (aJ (.inl rfl) gf (fun _ _ => rfl))
 (ag (a7 (aP rfl) (bL G.ok hz (aA G h_clashes (by decide) rfl rfl (af (ac rfl rfl) (af (ac rfl rfl) (af (ac rfl rfl) aj rfl) rfl) rfl) rfl)) (ag (a7 (aP rfl) (bL G.ok hz (ac rfl rfl)) (ag (bG iq bc (ac rfl rfl) (ac rfl rfl) (fun _ _ => rfl))
 am) (fun _ _ => rfl))
 am) (fun _ _ => rfl))
 (ag (a7 (aP rfl) (bL G.ok hz (ac rfl rfl)) (ag (aQ (aT (iR G.ok) (ac rfl rfl) (ac rfl rfl) rfl) (ag cH
 am) am)
 am) (fun _ _ => rfl))
 (ag (a7 (aP rfl) (bL G.ok hz (aA G h_clashing (by decide) rfl rfl (af (ac rfl rfl) (af (ac rfl rfl) (af (ac rfl rfl) aj rfl) rfl) rfl) rfl)) (ag (aQ (aT (iR G.ok) (ac rfl rfl) (ac rfl rfl) rfl) (ag cH
 am) am)
 am) (fun _ _ => rfl))
 (ag (aJ (.inl rfl) (aA G h_standing (by decide) rfl rfl (af (ac rfl rfl) (af (ac rfl rfl) (af (ac rfl rfl) aj rfl) rfl) rfl) rfl) (fun _ _ => rfl))
 (ag (a7 (aP rfl) (bL G.ok hz (ac rfl rfl)) (ag (aQ (aT nV (pf (ac rfl rfl) (ac rfl rfl) rfl) jP rfl) (ag (bG iq (pf (ac rfl rfl) (ac rfl rfl) rfl) (ac rfl rfl) (ac rfl rfl) (fun _ _ => rfl))
 am) (ag (aQ (aT (pM G.ok) (ac rfl rfl) (ac rfl rfl) rfl) (ag (ba (qQ (ac rfl rfl) (af (ac rfl rfl) aj rfl) rfl (fun _ => rfl) rfl (by decide)) (fun _ _ => rfl))
 am) am)
 am))
 am) (fun _ _ => rfl))
 (ag (a7 (aP rfl) (bL G.ok hz (ac rfl rfl)) (ag (a7 (aP rfl) (bL G.ok hz (aA G h_above (by decide) rfl rfl (af (ac rfl rfl) aj rfl) rfl)) (ag (aQ (aT (pM G.ok) (ac rfl rfl) (ac rfl rfl) rfl) (ag cH
 am) am)
 am) (fun _ _ => rfl))
 am) (fun _ _ => rfl))
 (ag (aG (ac rfl rfl))
 am))))))))
theorem sW {C : Cx} (G : Gl C Hd.vw) (hz : C.held = none)  (h_clashes : FnAt C 4 "clashes" (sp_clashes C.ns)) (h_clashing : FnAt C 2 "clashing" (sp_clashing C.ns)) (h_standing : FnAt C 3 "standing" (sp_standing C.ns)) (h_above : FnAt C 0 "above" (sp_above C.ns)) (hspec : ∀ vs σ Q, sp_joined C.ns vs σ Q → vs.length = 4 ∧ iG C.ns (aF ["elder", "one", "other", "picks"] vs aN) σ (fin Q)) : FnAt C 5 "joined" (sp_joined C.ns) :=
 FnAt.mk (xs := ["elder", "one", "other", "picks"]) G 10 21 rfl rfl rfl rfl rfl (fun ws pm code doc h => by
  obtain ⟨w0, w1, w2, w3, rfl⟩ := sK h
  rfl) rfl (tp G hz  h_clashes h_clashing h_standing h_above) hspec
noncomputable def pb (ns : List Int) : ST :=
 (bi "path" (aB (aK ns) (ae "deed") (aE (.int 1))))
noncomputable def o9 (ns : List Int) : ST :=
 (dz (dq (aH (az (sp_is_path ns) (ah (ae "path") av)))) (an eh
 aw) aw)
noncomputable def o8 (ns : List Int) : ST :=
 (bi "fresh" (az ik (ah (ae "tree") av)))
noncomputable def o7 (ns : List Int) : ST :=
 (dz (aH (aB bR (aB (aK ns) (ae "deed") (aE (.int 0))) (aE (.str (Str.ofString "cut"))))) (an (dz (aH (aB im (ae "path") (ae "fresh"))) (an eh
 aw) aw)
 (an (bO (br cy qo (ae "fresh") (ah (ae "path") av)))
 (an (bC (ae "fresh"))
 aw))) aw)
noncomputable def o6 (ns : List Int) : ST :=
 (ch (.name "other") (fR ns (ae "tree")) (an (dz (gg (aH (az (sp_is_beneath ns) (ah (ae "path") (ah (ae "other") av)))) (gg (aH (az (sp_is_beneath ns) (ah (ae "other") (ah (ae "path") av)))) tF)) (an eh
 aw) aw)
 aw))
noncomputable def o5 (ns : List Int) : ST :=
 (bI kZ (aB (aK ns) (ae "deed") (aE (.int 2))) (ae "fresh") (ae "path"))
noncomputable def o0 (ns : List Int) : ST :=
 (bC (ae "fresh"))
noncomputable def nk (ns : List Int) : ST := (an (pb ns) (an (o9 ns) (an (o8 ns) (an (o7 ns) (an (o6 ns) (an (o5 ns) (an (o0 ns) aw)))))))
theorem v7 {C : Cx} (G : Gl C Hd.vw) (hz : C.held = none)  (h_is_path : FnAt C 1 "is_path" (sp_is_path C.ns)) (h_is_beneath : FnAt C 0 "is_beneath" (sp_is_beneath C.ns)) : HS C (aW Hd.vw 22) 2 (bF Hd.vw 22) (nk C.ns) :=
 (ag (aJ (.inl rfl) (aR G (ac rfl rfl) aL rfl) (fun _ _ => rfl))
 (ag (aQ (b8 (bM (aA G h_is_path (by decide) rfl rfl (af (ac rfl rfl) aj rfl) rfl) (fun _ _ => rfl))) (ag cH
 am) am)
 (ag (aJ (.inl rfl) (pi G rfl (af (ac rfl rfl) aj rfl) rfl) (fun _ _ => rfl))
 (ag (aQ (aT ce (aR G (ac rfl rfl) aL rfl) c9 rfl) (ag (aQ (aT (iR G.ok) (ac rfl rfl) (ac rfl rfl) rfl) (ag cH
 am) am)
 (ag (ba (qQ (ac rfl rfl) (af (ac rfl rfl) aj rfl) rfl (fun _ => rfl) rfl (by decide)) (fun _ _ => rfl))
 (ag (aG (ac rfl rfl))
 am))) am)
 (ag (a7 (aP rfl) (bL G.ok hz (ac rfl rfl)) (ag (aQ (bB (bu (bM (aA G h_is_beneath (by decide) rfl rfl (af (ac rfl rfl) (af (ac rfl rfl) aj rfl) rfl) rfl) (fun _ _ => rfl)) (bu (bM (aA G h_is_beneath (by decide) rfl rfl (af (ac rfl rfl) (af (ac rfl rfl) aj rfl) rfl) rfl) (fun _ _ => rfl)) bX))) (ag cH
 am) am)
 am) (fun _ _ => rfl))
 (ag (bG iq (aR G (ac rfl rfl) aL rfl) (ac rfl rfl) (ac rfl rfl) (fun _ _ => rfl))
 (ag (aG (ac rfl rfl))
 am)))))))
theorem vI {C : Cx} (G : Gl C Hd.vw) (hz : C.held = none)  (h_is_path : FnAt C 1 "is_path" (sp_is_path C.ns)) (h_is_beneath : FnAt C 0 "is_beneath" (sp_is_beneath C.ns)) (hspec : ∀ vs σ Q, sp_done C.ns vs σ Q → vs.length = 2 ∧ nk C.ns (aF ["tree", "deed"] vs aN) σ (fin Q)) : FnAt C 2 "done" (sp_done C.ns) :=
 FnAt.mk (xs := ["tree", "deed"]) G 11 22 rfl rfl rfl rfl rfl (fun ws pm code doc h => by
  obtain ⟨w0, w1, rfl⟩ := k8 h
  rfl) rfl (v7 G hz  h_is_path h_is_beneath) hspec
noncomputable def jy (ns : List Int) : ST :=
 (bi "fresh" (az ik (ah (ae "tree") av)))
noncomputable def jx (ns : List Int) : ST :=
 (ch (.name "deed") (fR ns (ae "deeds")) (an (bi "fresh" (az (sp_done ns) (ah (ae "fresh") (ah (ae "deed") av))))
 aw))
noncomputable def f4 (ns : List Int) : ST :=
 (bC (ae "fresh"))
noncomputable def gz (ns : List Int) : ST := (an (jy ns) (an (jx ns) (an (f4 ns) aw)))
theorem rN {C : Cx} (G : Gl C Hd.vw) (hz : C.held = none)  (h_done : FnAt C 2 "done" (sp_done C.ns)) : HS C (aW Hd.vw 23) 3 (bF Hd.vw 23) (gz C.ns) :=
 (ag (aJ (.inl rfl) (pi G rfl (af (ac rfl rfl) aj rfl) rfl) (fun _ _ => rfl))
 (ag (a7 (aP rfl) (bL G.ok hz (ac rfl rfl)) (ag (aJ (.inl rfl) (aA G h_done (by decide) rfl rfl (af (ac rfl rfl) (af (ac rfl rfl) aj rfl) rfl) rfl) (fun _ _ => rfl))
 am) (fun _ _ => rfl))
 (ag (aG (ac rfl rfl))
 am)))
theorem rF {C : Cx} (G : Gl C Hd.vw) (hz : C.held = none)  (h_done : FnAt C 2 "done" (sp_done C.ns)) (hspec : ∀ vs σ Q, sp_changed C.ns vs σ Q → vs.length = 2 ∧ gz C.ns (aF ["tree", "deeds"] vs aN) σ (fin Q)) : FnAt C 3 "changed" (sp_changed C.ns) :=
 FnAt.mk (xs := ["tree", "deeds"]) G 12 23 rfl rfl rfl rfl rfl (fun ws pm code doc h => by
  obtain ⟨w0, w1, rfl⟩ := k8 h
  rfl) rfl (rN G hz  h_done) hspec
noncomputable def iK (ns : List Int) : ST :=
 (qt "trees" (cq (ah gV av)) (ae "self"))
noncomputable def iJ (ns : List Int) : ST :=
 (qt "made_of" (cq (ah (fg av) av)) (ae "self"))
noncomputable def fq (ns : List Int) : ST := (an (iK ns) (an (iJ ns) aw))
theorem qc {C : Cx} (G : Gl C Hd.vw) (hz : C.held = none)  {bk N : Addr} {mN : Str → Option Value} (B : Bk C bk N mN)  : HS C (Hd.fS (Hd.cB Hd.TB 29) 0) 0 (Hd.fB (Hd.cB Hd.TB 29) 0) (fq C.ns) :=
 (ag (pd B cL (B.look "trees" (by decide)) (bU (af gf aj rfl)) (ac rfl rfl) (fun _ _ => rfl))
 (ag (pd B dN (B.look "made_of" (by decide)) (bU (af (c8 aj) aj rfl)) (ac rfl rfl) (fun _ _ => rfl))
 am))
theorem p4 {C : Cx} (G : Gl C Hd.vw) (hz : C.held = none)  {bk N : Addr} {mN : Str → Option Value} (B : Bk C bk N mN) {P : Params} (KX : (Hd.kk P).In C.hB) (hN : N = Hd.bkN)  (hspec : ∀ vs σ Q, sp___init__ C.ns vs σ Q → vs.length = 1 ∧ fq C.ns (aF ["self"] vs aN) σ (fin Q)) : MtAt C mN 0 "__init__" (sp___init__ C.ns) :=
 MtAt.mk (xs := ["self"]) G.ok B KX (Hd.m___init__ P) (by subst hN; exact Hd.mn___init__ P) rfl rfl rfl rfl rfl (fun ws h => by
  obtain ⟨w0, rfl⟩ := mu h
  rfl) rfl (qc G hz  B ) hspec
noncomputable def oW (ns : List Int) : ST :=
 (dz (gg (aH (az cn (ah (ae "number") (ah (aE (.ty "bool")) av)))) (gg (dq (aH (az cn (ah (ae "number") (ah (aE (.ty "int")) av))))) (gg (dq (nF ri nS (aE (.int 0)) (ae "number") (az (bh ns) (ah (d6 "trees" (ae "self")) av)))) tF))) (an eh
 aw) aw)
noncomputable def m8 (ns : List Int) : ST := (an (oW ns) aw)
theorem vZ {C : Cx} (G : Gl C Hd.vw) (hz : C.held = none)  {bk N : Addr} {mN : Str → Option Value} (B : Bk C bk N mN)  : HS C (Hd.fS (Hd.cB Hd.TB 29) 1) 0 (Hd.fB (Hd.cB Hd.TB 29) 1) (m8 C.ns) :=
 (ag (aQ (bB (bu (bM (hJ G rfl (af (ac rfl rfl) (af (ph G rfl) aj rfl) rfl) rfl) (fun _ _ => rfl)) (bu (b8 (bM (hJ G rfl (af (ac rfl rfl) (af (qV G rfl) aj rfl) rfl) rfl) (fun _ _ => rfl))) (bu (b8 (nv qB nU aL (ac rfl rfl) (be G rfl (af (cx B cL (B.look "trees" (by decide)) (ac rfl rfl) (fun _ => rfl)) aj rfl) rfl) rfl)) bX)))) (ag cH
 am) am)
 am)
theorem vF {C : Cx} (G : Gl C Hd.vw) (hz : C.held = none)  {bk N : Addr} {mN : Str → Option Value} (B : Bk C bk N mN) {P : Params} (KX : (Hd.kk P).In C.hB) (hN : N = Hd.bkN)  (hspec : ∀ vs σ Q, sp_need C.ns vs σ Q → vs.length = 2 ∧ m8 C.ns (aF ["self", "number"] vs aN) σ (fin Q)) : MtAt C mN 0 "need" (sp_need C.ns) :=
 MtAt.mk (xs := ["self", "number"]) G.ok B KX (Hd.m_need P) (by subst hN; exact Hd.mn_need P) rfl rfl rfl rfl rfl (fun ws h => by
  obtain ⟨w0, w1, rfl⟩ := k8 h
  rfl) rfl (vZ G hz  B ) hspec
noncomputable def oX (ns : List Int) : ST :=
 (bC (az (bh ns) (ah (d6 "trees" (ae "self")) av)))
noncomputable def m9 (ns : List Int) : ST := (an (oX ns) aw)
theorem v5 {C : Cx} (G : Gl C Hd.vw) (hz : C.held = none)  {bk N : Addr} {mN : Str → Option Value} (B : Bk C bk N mN)  : HS C (Hd.fS (Hd.cB Hd.TB 29) 2) 0 (Hd.fB (Hd.cB Hd.TB 29) 2) (m9 C.ns) :=
 (ag (aG (be G rfl (af (cx B cL (B.look "trees" (by decide)) (ac rfl rfl) (fun _ => rfl)) aj rfl) rfl))
 am)
theorem vG {C : Cx} (G : Gl C Hd.vw) (hz : C.held = none)  {bk N : Addr} {mN : Str → Option Value} (B : Bk C bk N mN) {P : Params} (KX : (Hd.kk P).In C.hB) (hN : N = Hd.bkN)  (hspec : ∀ vs σ Q, sp_many C.ns vs σ Q → vs.length = 1 ∧ m9 C.ns (aF ["self"] vs aN) σ (fin Q)) : MtAt C mN 0 "many" (sp_many C.ns) :=
 MtAt.mk (xs := ["self"]) G.ok B KX (Hd.m_many P) (by subst hN; exact Hd.mn_many P) rfl rfl rfl rfl rfl (fun ws h => by
  obtain ⟨w0, rfl⟩ := mu h
  rfl) rfl (v5 G hz  B ) hspec
noncomputable def jk (ns : List Int) : ST :=
 (bO (bj "need" (sp_need ns) (ae "self") (ah (ae "number") av)))
noncomputable def jj (ns : List Int) : ST :=
 (bC (aB (aK ns) (d6 "made_of" (ae "self")) (ae "number")))
noncomputable def gr (ns : List Int) : ST := (an (jk ns) (an (jj ns) aw))
theorem rI {C : Cx} (G : Gl C Hd.vw) (hz : C.held = none)  {bk N : Addr} {mN : Str → Option Value} (B : Bk C bk N mN) (h_need : MtAt C mN 0 "need" (sp_need C.ns)) : HS C (Hd.fS (Hd.cB Hd.TB 29) 4) 1 (Hd.fB (Hd.cB Hd.TB 29) 4) (gr C.ns) :=
 (ag (ba (aY G.ok B h_need (by decide) eX (ac rfl rfl) (af (ac rfl rfl) aj rfl) rfl (fun _ => rfl) rfl (by decide)) (fun _ _ => rfl))
 (ag (aG (aR G (cx B dN (B.look "made_of" (by decide)) (ac rfl rfl) (fun _ => rfl)) (ac rfl rfl) rfl))
 am))
theorem rA {C : Cx} (G : Gl C Hd.vw) (hz : C.held = none)  {bk N : Addr} {mN : Str → Option Value} (B : Bk C bk N mN) {P : Params} (KX : (Hd.kk P).In C.hB) (hN : N = Hd.bkN) (h_need : MtAt C mN 0 "need" (sp_need C.ns)) (hspec : ∀ vs σ Q, sp_parents C.ns vs σ Q → vs.length = 2 ∧ gr C.ns (aF ["self", "number"] vs aN) σ (fin Q)) : MtAt C mN 1 "parents" (sp_parents C.ns) :=
 MtAt.mk (xs := ["self", "number"]) G.ok B KX (Hd.m_parents P) (by subst hN; exact Hd.mn_parents P) rfl rfl rfl rfl rfl (fun ws h => by
  obtain ⟨w0, w1, rfl⟩ := k8 h
  rfl) rfl (rI G hz  B h_need) hspec
noncomputable def iF (ns : List Int) : ST :=
 (bO (br bN bq (d6 "trees" (ae "self")) (ah (ae "tree") av)))
noncomputable def iE (ns : List Int) : ST :=
 (bO (br bN bq (d6 "made_of" (ae "self")) (ah (ae "parents") av)))
noncomputable def iD (ns : List Int) : ST :=
 (bC (aB jZ (az (bh ns) (ah (d6 "trees" (ae "self")) av)) (aE (.int 1))))
noncomputable def fj (ns : List Int) : ST := (an (iF ns) (an (iE ns) (an (iD ns) aw)))
theorem qa {C : Cx} (G : Gl C Hd.vw) (hz : C.held = none)  {bk N : Addr} {mN : Str → Option Value} (B : Bk C bk N mN)  : HS C (Hd.fS (Hd.cB Hd.TB 29) 5) 0 (Hd.fB (Hd.cB Hd.TB 29) 5) (fj C.ns) :=
 (ag (ba (bW (cx B cL (B.look "trees" (by decide)) (ac rfl rfl) (fun _ => rfl)) (af (ac rfl rfl) aj rfl) rfl (fun _ => rfl) rfl (by decide)) (fun _ _ => rfl))
 (ag (ba (bW (cx B dN (B.look "made_of" (by decide)) (ac rfl rfl) (fun _ => rfl)) (af (ac rfl rfl) aj rfl) rfl (fun _ => rfl) rfl (by decide)) (fun _ _ => rfl))
 (ag (aG (bf j4 (be G rfl (af (cx B cL (B.look "trees" (by decide)) (ac rfl rfl) (fun _ => rfl)) aj rfl) rfl) aL))
 am)))
theorem pY {C : Cx} (G : Gl C Hd.vw) (hz : C.held = none)  {bk N : Addr} {mN : Str → Option Value} (B : Bk C bk N mN) {P : Params} (KX : (Hd.kk P).In C.hB) (hN : N = Hd.bkN)  (hspec : ∀ vs σ Q, sp_put_down C.ns vs σ Q → vs.length = 3 ∧ fj C.ns (aF ["self", "tree", "parents"] vs aN) σ (fin Q)) : MtAt C mN 0 "put_down" (sp_put_down C.ns) :=
 MtAt.mk (xs := ["self", "tree", "parents"]) G.ok B KX (Hd.m_put_down P) (by subst hN; exact Hd.mn_put_down P) rfl rfl rfl rfl rfl (fun ws h => by
  obtain ⟨w0, w1, w2, rfl⟩ := jA h
  rfl) rfl (qa G hz  B ) hspec
noncomputable def oZ (ns : List Int) : ST :=
 (bO (bj "need" (sp_need ns) (ae "self") (ah (ae "parent") av)))
noncomputable def oY (ns : List Int) : ST :=
 (bC (bj "put_down" (sp_put_down ns) (ae "self") (ah (az (sp_changed ns) (ah (aB (aK ns) (d6 "trees" (ae "self")) (ae "parent")) (ah (ae "deeds") av))) (ah (fg (ah (ae "parent") av)) av))))
noncomputable def nj (ns : List Int) : ST := (an (oZ ns) (an (oY ns) aw))
theorem v6 {C : Cx} (G : Gl C Hd.vw) (hz : C.held = none)  {bk N : Addr} {mN : Str → Option Value} (B : Bk C bk N mN) (h_need : MtAt C mN 0 "need" (sp_need C.ns)) (h_changed : FnAt C 3 "changed" (sp_changed C.ns)) (h_put_down : MtAt C mN 0 "put_down" (sp_put_down C.ns)) : HS C (Hd.fS (Hd.cB Hd.TB 29) 6) 4 (Hd.fB (Hd.cB Hd.TB 29) 6) (nj C.ns) :=
 (ag (ba (aY G.ok B h_need (by decide) eX (ac rfl rfl) (af (ac rfl rfl) aj rfl) rfl (fun _ => rfl) rfl (by decide)) (fun _ _ => rfl))
 (ag (aG (aY G.ok B h_put_down (by decide) jd (ac rfl rfl) (af (aA G h_changed (by decide) rfl rfl (af (aR G (cx B cL (B.look "trees" (by decide)) (ac rfl rfl) (fun _ => rfl)) (ac rfl rfl) rfl) (af (ac rfl rfl) aj rfl) rfl) rfl) (af (c8 (af (ac rfl rfl) aj rfl)) aj rfl) rfl) rfl (fun _ => rfl) rfl (by decide)))
 am))
theorem vH {C : Cx} (G : Gl C Hd.vw) (hz : C.held = none)  {bk N : Addr} {mN : Str → Option Value} (B : Bk C bk N mN) {P : Params} (KX : (Hd.kk P).In C.hB) (hN : N = Hd.bkN) (h_need : MtAt C mN 0 "need" (sp_need C.ns)) (h_changed : FnAt C 3 "changed" (sp_changed C.ns)) (h_put_down : MtAt C mN 0 "put_down" (sp_put_down C.ns)) (hspec : ∀ vs σ Q, sp_grow C.ns vs σ Q → vs.length = 3 ∧ nj C.ns (aF ["self", "parent", "deeds"] vs aN) σ (fin Q)) : MtAt C mN 4 "grow" (sp_grow C.ns) :=
 MtAt.mk (xs := ["self", "parent", "deeds"]) G.ok B KX (Hd.m_grow P) (by subst hN; exact Hd.mn_grow P) rfl rfl rfl rfl rfl (fun ws h => by
  obtain ⟨w0, w1, w2, rfl⟩ := jA h
  rfl) rfl (v6 G hz  B h_need h_changed h_put_down) hspec
noncomputable def lK (ns : List Int) : ST :=
 (bO (bj "need" (sp_need ns) (ae "self") (ah (ae "one") av)))
noncomputable def lJ (ns : List Int) : ST :=
 (bO (bj "need" (sp_need ns) (ae "self") (ah (ae "other") av)))
noncomputable def lI (ns : List Int) : ST :=
 (dz (aH (aB bR (ae "one") (ae "other"))) (an eh
 aw) aw)
noncomputable def lH (ns : List Int) : ST :=
 (bi "elder" (bj "nearest" (sp_nearest ns) (ae "self") (ah (ae "one") (ah (ae "other") av))))
noncomputable def lG (ns : List Int) : ST :=
 (bi "tree" (az (sp_joined ns) (ah (aB (aK ns) (d6 "trees" (ae "self")) (ae "elder")) (ah (aB (aK ns) (d6 "trees" (ae "self")) (ae "one")) (ah (aB (aK ns) (d6 "trees" (ae "self")) (ae "other")) (ah (ae "picks") av))))))
noncomputable def lF (ns : List Int) : ST :=
 (bC (bj "put_down" (sp_put_down ns) (ae "self") (ah (ae "tree") (ah (fg (ah (az nJ (ah (ae "one") (ah (ae "other") av))) (ah (az nK (ah (ae "one") (ah (ae "other") av))) av))) av))))
noncomputable def jM (ns : List Int) : ST := (an (lK ns) (an (lJ ns) (an (lI ns) (an (lH ns) (an (lG ns) (an (lF ns) aw))))))
theorem um {C : Cx} (G : Gl C Hd.vw) (hz : C.held = none)  {bk N : Addr} {mN : Str → Option Value} (B : Bk C bk N mN) (h_need : MtAt C mN 0 "need" (sp_need C.ns)) (h_nearest : MtAt C mN 2 "nearest" (sp_nearest C.ns)) (h_joined : FnAt C 5 "joined" (sp_joined C.ns)) (h_put_down : MtAt C mN 0 "put_down" (sp_put_down C.ns)) : HS C (Hd.fS (Hd.cB Hd.TB 29) 7) 6 (Hd.fB (Hd.cB Hd.TB 29) 7) (jM C.ns) :=
 (ag (ba (aY G.ok B h_need (by decide) eX (ac rfl rfl) (af (ac rfl rfl) aj rfl) rfl (fun _ => rfl) rfl (by decide)) (fun _ _ => rfl))
 (ag (ba (aY G.ok B h_need (by decide) eX (ac rfl rfl) (af (ac rfl rfl) aj rfl) rfl (fun _ => rfl) rfl (by decide)) (fun _ _ => rfl))
 (ag (aQ (aT ce (ac rfl rfl) (ac rfl rfl) rfl) (ag cH
 am) am)
 (ag (aJ (.inl rfl) (aY G.ok B h_nearest (by decide) gS (ac rfl rfl) (af (ac rfl rfl) (af (ac rfl rfl) aj rfl) rfl) rfl (fun _ => rfl) rfl (by decide)) (fun _ _ => rfl))
 (ag (aJ (.inl rfl) (aA G h_joined (by decide) rfl rfl (af (aR G (cx B cL (B.look "trees" (by decide)) (ac rfl rfl) (fun _ => rfl)) (ac rfl rfl) rfl) (af (aR G (cx B cL (B.look "trees" (by decide)) (ac rfl rfl) (fun _ => rfl)) (ac rfl rfl) rfl) (af (aR G (cx B cL (B.look "trees" (by decide)) (ac rfl rfl) (fun _ => rfl)) (ac rfl rfl) rfl) (af (ac rfl rfl) aj rfl) rfl) rfl) rfl) rfl) (fun _ _ => rfl))
 (ag (aG (aY G.ok B h_put_down (by decide) jd (ac rfl rfl) (af (ac rfl rfl) (af (c8 (af (qR G hz rfl (af (ac rfl rfl) (af (ac rfl rfl) aj rfl) rfl) rfl) (af (qS G hz rfl (af (ac rfl rfl) (af (ac rfl rfl) aj rfl) rfl) rfl) aj rfl) rfl)) aj rfl) rfl) rfl (fun _ => rfl) rfl (by decide)))
 am))))))
theorem ud {C : Cx} (G : Gl C Hd.vw) (hz : C.held = none)  {bk N : Addr} {mN : Str → Option Value} (B : Bk C bk N mN) {P : Params} (KX : (Hd.kk P).In C.hB) (hN : N = Hd.bkN) (h_need : MtAt C mN 0 "need" (sp_need C.ns)) (h_nearest : MtAt C mN 2 "nearest" (sp_nearest C.ns)) (h_joined : FnAt C 5 "joined" (sp_joined C.ns)) (h_put_down : MtAt C mN 0 "put_down" (sp_put_down C.ns)) (hspec : ∀ vs σ Q, sp_merge C.ns vs σ Q → vs.length = 4 ∧ jM C.ns (aF ["self", "one", "other", "picks"] vs aN) σ (fin Q)) : MtAt C mN 6 "merge" (sp_merge C.ns) :=
 MtAt.mk (xs := ["self", "one", "other", "picks"]) G.ok B KX (Hd.m_merge P) (by subst hN; exact Hd.mn_merge P) rfl rfl rfl rfl rfl (fun ws h => by
  obtain ⟨w0, w1, w2, w3, rfl⟩ := sK h
  rfl) rfl (um G hz  B h_need h_nearest h_joined h_put_down) hspec
noncomputable def kX (ns : List Int) : ST :=
 (bO (bj "need" (sp_need ns) (ae "self") (ah (ae "number") av)))
noncomputable def hE (ns : List Int) : ST :=
 (bi "found" (jJ (ae "number") (aE (.bool true))))
noncomputable def gZ (ns : List Int) : ST :=
 (ch (.name "k") (sT (ah (ae "number") (ah (tB io (aE (.int 1))) (ah (tB io (aE (.int 1))) av)))) (an (dz (aH (aB qv (ae "k") (ae "found"))) (an (ch (.name "parent") (fR ns (aB (aK ns) (d6 "made_of" (ae "self")) (ae "k"))) (an (bI tN (aE (.bool true)) (ae "found") (ae "parent"))
 aw))
 aw) aw)
 aw))
noncomputable def gY (ns : List Int) : ST :=
 (bC (mO (ae "found")))
noncomputable def iH (ns : List Int) : ST := (an (kX ns) (an (hE ns) (an (gZ ns) (an (gY ns) aw))))
theorem tq {C : Cx} (G : Gl C Hd.vw) (hz : C.held = none)  {bk N : Addr} {mN : Str → Option Value} (B : Bk C bk N mN) (h_need : MtAt C mN 0 "need" (sp_need C.ns)) : HS C (Hd.fS (Hd.cB Hd.TB 29) 8) 1 (Hd.fB (Hd.cB Hd.TB 29) 8) (iH C.ns) :=
 (ag (ba (aY G.ok B h_need (by decide) eX (ac rfl rfl) (af (ac rfl rfl) aj rfl) rfl (fun _ => rfl) rfl (by decide)) (fun _ _ => rfl))
 (ag (aJ (.inl rfl) (lS (nn rfl rfl) uv) (fun _ _ => rfl))
 (ag (a7 (aP rfl) (ux G hz rfl (af (ac rfl rfl) (af (lR j5 aL) (af (lR j5 aL) aj rfl) rfl) rfl) rfl) (ag (aQ (aT (sz G.ok) (ac rfl rfl) (ac rfl rfl) rfl) (ag (a7 (aP rfl) (bL G.ok hz (aR G (cx B dN (B.look "made_of" (by decide)) (ac rfl rfl) (fun _ => rfl)) (ac rfl rfl) rfl)) (ag (bG qz bc (ac rfl rfl) (ac rfl rfl) (fun _ _ => rfl))
 am) (fun _ _ => rfl))
 am) am)
 am) (fun _ _ => rfl))
 (ag (aG (kY G hz rfl (ac rfl rfl) (fun _ => rfl) rfl))
 am))))
theorem sX {C : Cx} (G : Gl C Hd.vw) (hz : C.held = none)  {bk N : Addr} {mN : Str → Option Value} (B : Bk C bk N mN) {P : Params} (KX : (Hd.kk P).In C.hB) (hN : N = Hd.bkN) (h_need : MtAt C mN 0 "need" (sp_need C.ns)) (hspec : ∀ vs σ Q, sp_elders C.ns vs σ Q → vs.length = 2 ∧ iH C.ns (aF ["self", "number"] vs aN) σ (fin Q)) : MtAt C mN 1 "elders" (sp_elders C.ns) :=
 MtAt.mk (xs := ["self", "number"]) G.ok B KX (Hd.m_elders P) (by subst hN; exact Hd.mn_elders P) rfl rfl rfl rfl rfl (fun ws h => by
  obtain ⟨w0, w1, rfl⟩ := k8 h
  rfl) rfl (tq G hz  B h_need) hspec
noncomputable def jm (ns : List Int) : ST :=
 (bi "mine" (bj "elders" (sp_elders ns) (ae "self") (ah (ae "one") av)))
noncomputable def jl (ns : List Int) : ST :=
 (bC (az l5 (ah (dm ["mine"] (.name "number") (fR ns (bj "elders" (sp_elders ns) (ae "self") (ah (ae "other") av))) (aH (aB qu (ae "number") (ae "mine"))) (ae "number")) av)))
noncomputable def gu (ns : List Int) : ST := (an (jm ns) (an (jl ns) aw))
theorem rJ {C : Cx} (G : Gl C Hd.vw) (hz : C.held = none)  {bk N : Addr} {mN : Str → Option Value} (B : Bk C bk N mN) (h_elders : MtAt C mN 1 "elders" (sp_elders C.ns)) : HS C (Hd.fS (Hd.cB Hd.TB 29) 9) 2 (Hd.fB (Hd.cB Hd.TB 29) 9) (gu C.ns) :=
 (ag (aJ (.inr rfl) (aY G.ok B h_elders (by decide) gl (ac rfl rfl) (af (ac rfl rfl) aj rfl) rfl (fun _ => rfl) rfl (by decide)) (fun _ _ => rfl))
 (ag (aG (uy G hz rfl (af (ee (CompOk.of rfl) (bL G.ok hz (aY G.ok B h_elders (by decide) gl (ac rfl rfl) (af (ac rfl rfl) aj rfl) rfl (fun _ => rfl) rfl (by decide))) (aP rfl) (fu (aT sy (ac rfl rfl) (aM rfl rfl) rfl)) (ac rfl rfl) (fun _ _ => rfl)) aj rfl) rfl))
 am))
theorem rB {C : Cx} (G : Gl C Hd.vw) (hz : C.held = none)  {bk N : Addr} {mN : Str → Option Value} (B : Bk C bk N mN) {P : Params} (KX : (Hd.kk P).In C.hB) (hN : N = Hd.bkN) (h_elders : MtAt C mN 1 "elders" (sp_elders C.ns)) (hspec : ∀ vs σ Q, sp_nearest C.ns vs σ Q → vs.length = 3 ∧ gu C.ns (aF ["self", "one", "other"] vs aN) σ (fin Q)) : MtAt C mN 2 "nearest" (sp_nearest C.ns) :=
 MtAt.mk (xs := ["self", "one", "other"]) G.ok B KX (Hd.m_nearest P) (by subst hN; exact Hd.mn_nearest P) rfl rfl rfl rfl rfl (fun ws h => by
  obtain ⟨w0, w1, w2, rfl⟩ := jA h
  rfl) rfl (rJ G hz  B h_elders) hspec
noncomputable def oV (ns : List Int) : ST :=
 (bO (bj "need" (sp_need ns) (ae "self") (ah (ae "elder") av)))
noncomputable def oU (ns : List Int) : ST :=
 (bO (bj "need" (sp_need ns) (ae "self") (ah (ae "number") av)))
noncomputable def oT (ns : List Int) : ST :=
 (bi "came" (jJ (ae "elder") (ae "elder")))
noncomputable def oS (ns : List Int) : ST :=
 (ch (.name "k") (cz (ah (aB fE (ae "elder") (aE (.int 1))) (ah (aB fE (ae "number") (aE (.int 1))) av))) (an (ch (.name "parent") (fR ns (aB (aK ns) (d6 "made_of" (ae "self")) (ae "k"))) (an (dz (aH (aB qv (ae "parent") (ae "came"))) (an (bI tN (ae "parent") (ae "came") (ae "k"))
 aw) aw)
 aw))
 aw))
noncomputable def oR (ns : List Int) : ST :=
 (dz (aH (aB j3 (ae "number") (ae "came"))) (an (bC (aE .none))
 aw) aw)
noncomputable def oQ (ns : List Int) : ST :=
 (bi "row" (cq (ah (ae "number") av)))
noncomputable def tv (ns : List Int) : ST :=
 (se (aH (aB dv (aB (aK ns) (ae "row") (tB io (aE (.int 1)))) (ae "elder"))) (an (bO (br bN bq (ae "row") (ah (aB ip (ae "came") (aB (aK ns) (ae "row") (tB io (aE (.int 1))))) av)))
 aw))
noncomputable def oP (ns : List Int) : ST :=
 (bC (ku (ae "row")))
noncomputable def m7 (ns : List Int) : ST := (an (oV ns) (an (oU ns) (an (oT ns) (an (oS ns) (an (oR ns) (an (oQ ns) (an (tv ns) (an (oP ns) aw))))))))
theorem vY {C : Cx} (G : Gl C Hd.vw) (hz : C.held = none)  {bk N : Addr} {mN : Str → Option Value} (B : Bk C bk N mN) (hrev : C.mg (Str.ofString "reversed") = Option.none) (h_need : MtAt C mN 0 "need" (sp_need C.ns)) : HS C (Hd.fS (Hd.cB Hd.TB 29) 10) 1 (Hd.fB (Hd.cB Hd.TB 29) 10) (m7 C.ns) :=
 (ag (ba (aY G.ok B h_need (by decide) eX (ac rfl rfl) (af (ac rfl rfl) aj rfl) rfl (fun _ => rfl) rfl (by decide)) (fun _ _ => rfl))
 (ag (ba (aY G.ok B h_need (by decide) eX (ac rfl rfl) (af (ac rfl rfl) aj rfl) rfl (fun _ => rfl) rfl (by decide)) (fun _ _ => rfl))
 (ag (aJ (.inl rfl) (lS (nn rfl rfl) (nn rfl rfl)) (fun _ _ => rfl))
 (ag (a7 (aP rfl) (du G hz rfl (af (bf fP (ac rfl rfl) aL) (af (bf fP (ac rfl rfl) aL) aj rfl) rfl) rfl) (ag (a7 (aP rfl) (bL G.ok hz (aR G (cx B dN (B.look "made_of" (by decide)) (ac rfl rfl) (fun _ => rfl)) (ac rfl rfl) rfl)) (ag (aQ (aT (sz G.ok) (ac rfl rfl) (ac rfl rfl) rfl) (ag (bG qz (ac rfl rfl) (ac rfl rfl) (ac rfl rfl) (fun _ _ => rfl))
 am) am)
 am) (fun _ _ => rfl))
 am) (fun _ _ => rfl))
 (ag (aQ (aT (rn G.ok) (ac rfl rfl) (ac rfl rfl) rfl) (ag (aG jP)
 am) am)
 (ag (aJ (.inl rfl) (bU (af (ac rfl rfl) aj rfl)) (fun _ _ => rfl))
 (ag (rO (aT gT (aR G (ac rfl rfl) (lR j5 aL) rfl) (ac rfl rfl) rfl) (ag (ba (bW (ac rfl rfl) (af (tx (ac rfl rfl) (aR G (ac rfl rfl) (lR j5 aL) rfl) rfl) aj rfl) rfl (fun _ => rfl) rfl (by decide)) (fun _ _ => rfl))
 am))
 (ag (aG (qh G hz hrev rfl rfl (ac rfl rfl) rfl))
 am))))))))
theorem vE {C : Cx} (G : Gl C Hd.vw) (hz : C.held = none)  {bk N : Addr} {mN : Str → Option Value} (B : Bk C bk N mN) (hrev : C.mg (Str.ofString "reversed") = Option.none) {P : Params} (KX : (Hd.kk P).In C.hB) (hN : N = Hd.bkN) (h_need : MtAt C mN 0 "need" (sp_need C.ns)) (hspec : ∀ vs σ Q, sp_road C.ns vs σ Q → vs.length = 3 ∧ m7 C.ns (aF ["self", "elder", "number"] vs aN) σ (fin Q)) : MtAt C mN 1 "road" (sp_road C.ns) :=
 MtAt.mk (xs := ["self", "elder", "number"]) G.ok B KX (Hd.m_road P) (by subst hN; exact Hd.mn_road P) rfl rfl rfl rfl rfl (fun ws h => by
  obtain ⟨w0, w1, w2, rfl⟩ := jA h
  rfl) rfl (vY G hz  B hrev h_need) hspec
noncomputable def f5 (ns : List Int) : ST :=
 (bC (lb (az cn (ah (ae "_law_found") (ah (aE (.ty "int")) av))) (tB sp (az cn (ah (ae "_law_found") (ah (aE (.ty "bool")) av))))))
noncomputable def dB (ns : List Int) : ST := (an (f5 ns) aw)
theorem mT {C : Cx} (G : Gl C Hd.vw) (hz : C.held = none)   : HS C (aW Hd.vw 25) 0 (bF Hd.vw 25) (dB C.ns) :=
 (ag (aG (eW (d9 (hJ G rfl (af (ac rfl rfl) (af (qV G rfl) aj rfl) rfl) rfl) (iL (lR vn (hJ G rfl (af (ac rfl rfl) (af (ph G rfl) aj rfl) rfl) rfl))))))
 am)
theorem mH {C : Cx} (G : Gl C Hd.vw) (hz : C.held = none)   (hspec : ∀ vs σ Q, sp__law_whole C.ns vs σ Q → vs.length = 1 ∧ dB C.ns (aF ["_law_found"] vs aN) σ (fin Q)) : FnAt C 0 "_law_whole" (sp__law_whole C.ns) :=
 FnAt.mk (xs := ["_law_found"]) G 13 25 rfl rfl rfl rfl rfl (fun ws pm code doc h => by
  obtain ⟨w0, rfl⟩ := mu h
  rfl) rfl (mT G hz  ) hspec
noncomputable def eP (ns : List Int) : ST :=
 (dz (aH (aB nS (ae "_law_k") (az (bh ns) (ah (ae "_law_script") av)))) (an (bC (aB (aK ns) (ae "_law_script") (ae "_law_k")))
 aw) aw)
noncomputable def eO (ns : List Int) : ST :=
 (bC (aE (.int 0)))
noncomputable def cZ (ns : List Int) : ST := (an (eP ns) (an (eO ns) aw))
theorem kK {C : Cx} (G : Gl C Hd.vw) (hz : C.held = none)   : HS C (aW Hd.vw 26) 0 (bF Hd.vw 26) (cZ C.ns) :=
 (ag (aQ (aT nU (ac rfl rfl) (be G rfl (af (ac rfl rfl) aj rfl) rfl) rfl) (ag (aG (aR G (ac rfl rfl) (ac rfl rfl) rfl))
 am) am)
 (ag (aG aL)
 am))
theorem kq {C : Cx} (G : Gl C Hd.vw) (hz : C.held = none)   (hspec : ∀ vs σ Q, sp__law_cell_at C.ns vs σ Q → vs.length = 2 ∧ cZ C.ns (aF ["_law_script", "_law_k"] vs aN) σ (fin Q)) : FnAt C 0 "_law_cell_at" (sp__law_cell_at C.ns) :=
 FnAt.mk (xs := ["_law_script", "_law_k"]) G 14 26 rfl rfl rfl rfl rfl (fun ws pm code doc h => by
  obtain ⟨w0, w1, rfl⟩ := k8 h
  rfl) rfl (kK G hz  ) hspec
noncomputable def dZ (ns : List Int) : ST :=
 (bC (aB bR (az (bh ns) (ah (dm [] (.name "_law_number") (fR ns (ae "_law_found")) (dq (aH (az (sp__law_whole ns) (ah (ae "_law_number") av)))) (ae "_law_number")) av)) (aE (.int 0))))
noncomputable def cm (ns : List Int) : ST := (an (dZ ns) aw)
theorem i5 {C : Cx} (G : Gl C Hd.vw) (hz : C.held = none)  (h__law_whole : FnAt C 0 "_law_whole" (sp__law_whole C.ns)) : HS C (aW Hd.vw 27) 1 (bF Hd.vw 27) (cm C.ns) :=
 (ag (aG (hX ce (be G rfl (af (ee (CompOk.of rfl) (bL G.ok hz (ac rfl rfl)) (aP rfl) (fu (b8 (bM (aA G h__law_whole (by decide) rfl rfl (af (ac rfl rfl) aj rfl) rfl) (fun _ _ => rfl)))) (ac rfl rfl) (fun _ _ => rfl)) aj rfl) rfl) aL rfl))
 am)
theorem iX {C : Cx} (G : Gl C Hd.vw) (hz : C.held = none)  (h__law_whole : FnAt C 0 "_law_whole" (sp__law_whole C.ns)) (hspec : ∀ vs σ Q, sp__law_are_whole C.ns vs σ Q → vs.length = 1 ∧ cm C.ns (aF ["_law_found"] vs aN) σ (fin Q)) : FnAt C 1 "_law_are_whole" (sp__law_are_whole C.ns) :=
 FnAt.mk (xs := ["_law_found"]) G 15 27 rfl rfl rfl rfl rfl (fun ws pm code doc h => by
  obtain ⟨w0, rfl⟩ := mu h
  rfl) rfl (i5 G hz  h__law_whole) hspec
noncomputable def dY (ns : List Int) : ST :=
 (bi "_law_known" (aB ma (cq (ah (aE (.bool false)) av)) (az (bh ns) (ah (ae "_law_older") av))))
noncomputable def dX (ns : List Int) : ST :=
 (bI pF (aE (.bool true)) (ae "_law_known") (ae "_law_number"))
noncomputable def dW (ns : List Int) : ST :=
 (ch (.name "_law_step") (cz (ah (az (bh ns) (ah (ae "_law_older") av)) av)) (an (bi "_law_later" (aB jZ (aB jZ (az (bh ns) (ah (ae "_law_older") av)) (aE (.int 1))) (ae "_law_step")))
 (an (dz (aH (aB (aK ns) (ae "_law_known") (ae "_law_later"))) (an (ch (.name "_law_parent") (fR ns (aB (aK ns) (ae "_law_older") (ae "_law_later"))) (an (bI pF (aE (.bool true)) (ae "_law_known") (ae "_law_parent"))
 aw))
 aw) aw)
 aw)))
noncomputable def dU (ns : List Int) : ST :=
 (bC (dm ["_law_known"] (.name "_law_k") (cz (ah (az (bh ns) (ah (ae "_law_older") av)) av)) (aH (aB (aK ns) (ae "_law_known") (ae "_law_k"))) (ae "_law_k")))
noncomputable def ck (ns : List Int) : ST := (an (dY ns) (an (dX ns) (an (dW ns) (an (dU ns) aw))))
theorem i4 {C : Cx} (G : Gl C Hd.vw) (hz : C.held = none)   : HS C (aW Hd.vw 28) 0 (bF Hd.vw 28) (ck C.ns) :=
 (ag (aJ (.inr rfl) (bf qA (bU (af bc aj rfl)) (be G rfl (af (ac rfl rfl) aj rfl) rfl)) (fun _ _ => rfl))
 (ag (bG jF bc (aM rfl rfl) (ac rfl rfl) (fun _ _ => rfl))
 (ag (a7 (aP rfl) (du G hz rfl (af (be G rfl (af (ac rfl rfl) aj rfl) rfl) aj rfl) rfl) (ag (aJ (.inl rfl) (bf j4 (bf j4 (be G rfl (af (ac rfl rfl) aj rfl) rfl) aL) (ac rfl rfl)) (fun _ _ => rfl))
 (ag (aQ (bM (aR G (aM rfl rfl) (ac rfl rfl) rfl) (fun _ _ => rfl)) (ag (a7 (aP rfl) (bL G.ok hz (aR G (ac rfl rfl) (ac rfl rfl) rfl)) (ag (bG jF bc (aM rfl rfl) (ac rfl rfl) (fun _ _ => rfl))
 am) (fun _ _ => rfl))
 am) am)
 am)) (fun _ _ => rfl))
 (ag (aG (ee (CompOk.of rfl) (du G hz rfl (af (be G rfl (af (ac rfl rfl) aj rfl) rfl) aj rfl) rfl) (aP rfl) (fu (bM (aR G (aM rfl rfl) (ac rfl rfl) rfl) (fun _ _ => rfl))) (ac rfl rfl) (fun _ _ => rfl)))
 am))))
theorem iW {C : Cx} (G : Gl C Hd.vw) (hz : C.held = none)   (hspec : ∀ vs σ Q, sp__law_elders_by C.ns vs σ Q → vs.length = 2 ∧ ck C.ns (aF ["_law_older", "_law_number"] vs aN) σ (fin Q)) : FnAt C 0 "_law_elders_by" (sp__law_elders_by C.ns) :=
 FnAt.mk (xs := ["_law_older", "_law_number"]) G 16 28 rfl rfl rfl rfl rfl (fun ws pm code doc h => by
  obtain ⟨w0, w1, rfl⟩ := k8 h
  rfl) rfl (i4 G hz  ) hspec
noncomputable def gP (ns : List Int) : ST :=
 (bi "_law_one" (aB dM (aB lq (ae "_law_cell") (aE (.int 5))) (az (bh ns) (ah (ae "_law_older") av))))
noncomputable def gO (ns : List Int) : ST :=
 (bi "_law_other" (aB dM (aB dM (aB sq (ae "_law_cell") (aE (.int 48271))) (aE (.int 65537))) (az (bh ns) (ah (ae "_law_older") av))))
noncomputable def gJ (ns : List Int) : ST :=
 (dz (ie (aH (aB nS (aB dM (ae "_law_cell") (aE (.int 5))) (aE (.int 2)))) (ie (aH (aB dv (ae "_law_one") (ae "_law_other"))) tT)) (an (bi "_law_number" (bj "merge" (sp_merge ns) (ae "_law_book") (ah (ae "_law_one") (ah (ae "_law_other") (ah gV av)))))
 (an (bO (br bN bq (ae "_law_older") (ah (fg (ah (az nJ (ah (ae "_law_one") (ah (ae "_law_other") av))) (ah (az nK (ah (ae "_law_one") (ah (ae "_law_other") av))) av))) av)))
 aw)) (an (bi "_law_deeds" (cq (ah (fg (ah (aE (.str (Str.ofString "put"))) (ah (aB fE (aE (.str (Str.ofString "v"))) (az ja (ah (az (bh ns) (ah (ae "_law_older") av)) av))) (ah (az ja (ah (aB dM (ae "_law_cell") (aB so (aE (.int 10)) (aE (.int 9)))) av)) av)))) av)))
 (an (dz (aH (aB bR (aB dM (ae "_law_cell") (aE (.int 5))) (aE (.int 4)))) (an (bi "_law_deeds" (cq av))
 aw) aw)
 (an (bi "_law_number" (bj "grow" (sp_grow ns) (ae "_law_book") (ah (ae "_law_one") (ah (ae "_law_deeds") av))))
 (an (bO (br bN bq (ae "_law_older") (ah (fg (ah (ae "_law_one") av)) av)))
 aw)))))
noncomputable def cb (ns : List Int) : ST :=
 (bi "_law_many" (bj "many" (sp_many ns) (ae "_law_book") av))
noncomputable def ca (ns : List Int) : ST :=
 (bC (lb (az (sp__law_whole ns) (ah (ae "_law_number") av)) (lb (aB bR (ae "_law_number") (aB jZ (az (bh ns) (ah (ae "_law_older") av)) (aE (.int 1)))) (lb (az (sp__law_whole ns) (ah (ae "_law_many") av)) (aB bR (ae "_law_many") (az (bh ns) (ah (ae "_law_older") av)))))))
noncomputable def d8 (ns : List Int) : ST := (an (gP ns) (an (gO ns) (an (gJ ns) (an (cb ns) (an (ca ns) aw)))))
theorem oN {C : Cx} (G : Gl C Hd.vw) (hz : C.held = none)  {bk N : Addr} {mN : Str → Option Value} (B : Bk C bk N mN) (h_merge : MtAt C mN 6 "merge" (sp_merge C.ns)) (h_grow : MtAt C mN 4 "grow" (sp_grow C.ns)) (h_many : MtAt C mN 0 "many" (sp_many C.ns)) (h__law_whole : FnAt C 0 "_law_whole" (sp__law_whole C.ns)) : HS C (aW Hd.vw 29) 7 (bF Hd.vw 29) (d8 C.ns) :=
 (ag (aJ (.inl rfl) (bf dO (bf mn (ac rfl rfl) aL) (be G rfl (af (ac rfl rfl) aj rfl) rfl)) (fun _ _ => rfl))
 (ag (aJ (.inl rfl) (bf dO (bf dO (bf vp (ac rfl rfl) aL) aL) (be G rfl (af (ac rfl rfl) aj rfl) rfl)) (fun _ _ => rfl))
 (ag (aQ (bB (eg (aT nU (bf dO (ac rfl rfl) aL) aL rfl) (eg (aT gT (ac rfl rfl) (ac rfl rfl) rfl) fD))) (ag (aJ (.inl rfl) (aY G.ok B h_merge (by decide) su (ac rfl rfl) (af (ac rfl rfl) (af (ac rfl rfl) (af gf aj rfl) rfl) rfl) rfl (fun _ => rfl) rfl (by decide)) (fun _ _ => rfl))
 (ag (ba (bW (ac rfl rfl) (af (c8 (af (qR G hz rfl (af (ac rfl rfl) (af (ac rfl rfl) aj rfl) rfl) rfl) (af (qS G hz rfl (af (ac rfl rfl) (af (ac rfl rfl) aj rfl) rfl) rfl) aj rfl) rfl)) aj rfl) rfl (fun _ => rfl) rfl (by decide)) (fun _ _ => rfl))
 am)) (ag (aJ (.inl rfl) (bU (af (c8 (af c9 (af (bf fP c9 (qP G rfl (af (be G rfl (af (ac rfl rfl) aj rfl) rfl) aj rfl) rfl)) (af (qP G rfl (af (bf dO (ac rfl rfl) (bf vh aL aL)) aj rfl) rfl) aj rfl) rfl) rfl)) aj rfl)) (fun _ _ => rfl))
 (ag (aQ (aT ce (bf dO (ac rfl rfl) aL) aL rfl) (ag (aJ (.inl rfl) (bU aj) (fun _ _ => rfl))
 am) am)
 (ag (aJ (.inl rfl) (aY G.ok B h_grow (by decide) qy (ac rfl rfl) (af (ac rfl rfl) (af (ac rfl rfl) aj rfl) rfl) rfl (fun _ => rfl) rfl (by decide)) (fun _ _ => rfl))
 (ag (ba (bW (ac rfl rfl) (af (c8 (af (ac rfl rfl) aj rfl)) aj rfl) rfl (fun _ => rfl) rfl (by decide)) (fun _ _ => rfl))
 am)))))
 (ag (aJ (.inl rfl) (aY G.ok B h_many (by decide) qx (ac rfl rfl) aj rfl (fun _ => rfl) rfl (by decide)) (fun _ _ => rfl))
 (ag (aG (eW (d9 (aA G h__law_whole (by decide) rfl rfl (af (ac rfl rfl) aj rfl) rfl) (d9 (hX ce (ac rfl rfl) (bf j4 (be G rfl (af (ac rfl rfl) aj rfl) rfl) aL) rfl) (d9 (aA G h__law_whole (by decide) rfl rfl (af (ac rfl rfl) aj rfl) rfl) (iL (hX ce (ac rfl rfl) (be G rfl (af (ac rfl rfl) aj rfl) rfl) rfl)))))))
 am)))))
theorem ov {C : Cx} (G : Gl C Hd.vw) (hz : C.held = none)  {bk N : Addr} {mN : Str → Option Value} (B : Bk C bk N mN) (h_merge : MtAt C mN 6 "merge" (sp_merge C.ns)) (h_grow : MtAt C mN 4 "grow" (sp_grow C.ns)) (h_many : MtAt C mN 0 "many" (sp_many C.ns)) (h__law_whole : FnAt C 0 "_law_whole" (sp__law_whole C.ns)) (hspec : ∀ vs σ Q, sp__law_deed C.ns vs σ Q → vs.length = 3 ∧ d8 C.ns (aF ["_law_book", "_law_older", "_law_cell"] vs aN) σ (fin Q)) : FnAt C 7 "_law_deed" (sp__law_deed C.ns) :=
 FnAt.mk (xs := ["_law_book", "_law_older", "_law_cell"]) G 17 29 rfl rfl rfl rfl rfl (fun ws pm code doc h => by
  obtain ⟨w0, w1, w2, rfl⟩ := jA h
  rfl) rfl (oN G hz  B h_merge h_grow h_many h__law_whole) hspec
noncomputable def eN (ns : List Int) : ST :=
 (dz (gg (dq (aH (az cn (ah (ae "_law_road") (ah (aE (.ty "list")) av))))) (gg (aH (aB bR (az (bh ns) (ah (ae "_law_road") av)) (aE (.int 0)))) (gg (dq (aH (az (sp__law_are_whole ns) (ah (ae "_law_road") av)))) tF))) (an (bC (aE (.bool false)))
 aw) aw)
noncomputable def eM (ns : List Int) : ST :=
 (dz (gg (aH (aB dv (aB (aK ns) (ae "_law_road") (aE (.int 0))) (ae "_law_elder"))) (gg (aH (aB dv (aB (aK ns) (ae "_law_road") (tB io (aE (.int 1)))) (ae "_law_number"))) tF)) (an (bC (aE (.bool false)))
 aw) aw)
noncomputable def eK (ns : List Int) : ST :=
 (ch (.name "_law_k") (cz (ah (aE (.int 1)) (ah (az (bh ns) (ah (ae "_law_road") av)) av))) (an (dz (gg (dq (nF ri nS (aE (.int 0)) (aB (aK ns) (ae "_law_road") (ae "_law_k")) (az (bh ns) (ah (ae "_law_older") av)))) (gg (aH (aB dL (aB (aK ns) (ae "_law_road") (aB jZ (ae "_law_k") (aE (.int 1)))) (aB (aK ns) (ae "_law_older") (aB (aK ns) (ae "_law_road") (ae "_law_k"))))) tF)) (an (bC (aE (.bool false)))
 aw) aw)
 aw))
noncomputable def eJ (ns : List Int) : ST :=
 (bC (aE (.bool true)))
noncomputable def cW (ns : List Int) : ST := (an (eN ns) (an (eM ns) (an (eK ns) (an (eJ ns) aw))))
theorem kJ {C : Cx} (G : Gl C Hd.vw) (hz : C.held = none)  (h__law_are_whole : FnAt C 1 "_law_are_whole" (sp__law_are_whole C.ns)) : HS C (aW Hd.vw 30) 2 (bF Hd.vw 30) (cW C.ns) :=
 (ag (aQ (bB (bu (b8 (bM (hJ G rfl (af (ac rfl rfl) (af (pg G rfl) aj rfl) rfl) rfl) (fun _ _ => rfl))) (bu (aT ce (be G rfl (af (ac rfl rfl) aj rfl) rfl) aL rfl) (bu (b8 (bM (aA G h__law_are_whole (by decide) rfl rfl (af (ac rfl rfl) aj rfl) rfl) (fun _ _ => rfl))) bX)))) (ag (aG bc)
 am) am)
 (ag (aQ (bB (bu (aT gT (aR G (ac rfl rfl) aL rfl) (ac rfl rfl) rfl) (bu (aT gT (aR G (ac rfl rfl) (lR j5 aL) rfl) (ac rfl rfl) rfl) bX))) (ag (aG bc)
 am) am)
 (ag (a7 (aP rfl) (du G hz rfl (af aL (af (be G rfl (af (ac rfl rfl) aj rfl) rfl) aj rfl) rfl) rfl) (ag (aQ (bB (bu (b8 (nv qB nU aL (aR G (ac rfl rfl) (ac rfl rfl) rfl) (be G rfl (af (ac rfl rfl) aj rfl) rfl) rfl)) (bu (aT gm (aR G (ac rfl rfl) (bf j4 (ac rfl rfl) aL) rfl) (aR G (ac rfl rfl) (aR G (ac rfl rfl) (ac rfl rfl) rfl) rfl) rfl) bX))) (ag (aG bc)
 am) am)
 am) (fun _ _ => rfl))
 (ag (aG bc)
 am))))
theorem km {C : Cx} (G : Gl C Hd.vw) (hz : C.held = none)  (h__law_are_whole : FnAt C 1 "_law_are_whole" (sp__law_are_whole C.ns)) (hspec : ∀ vs σ Q, sp__law_is_road C.ns vs σ Q → vs.length = 4 ∧ cW C.ns (aF ["_law_road", "_law_older", "_law_elder", "_law_number"] vs aN) σ (fin Q)) : FnAt C 2 "_law_is_road" (sp__law_is_road C.ns) :=
 FnAt.mk (xs := ["_law_road", "_law_older", "_law_elder", "_law_number"]) G 18 30 rfl rfl rfl rfl rfl (fun ws pm code doc h => by
  obtain ⟨w0, w1, w2, w3, rfl⟩ := sK h
  rfl) rfl (kJ G hz  h__law_are_whole) hspec
noncomputable def eU (ns : List Int) : ST :=
 (bi "_law_came" (aB ma (cq (ah (aE (.bool false)) av)) (az (bh ns) (ah (ae "_law_older") av))))
noncomputable def eT (ns : List Int) : ST :=
 (bI pF (aE (.bool true)) (ae "_law_came") (ae "_law_elder"))
noncomputable def eR (ns : List Int) : ST :=
 (ch (.name "_law_k") (cz (ah (aB fE (ae "_law_elder") (aE (.int 1))) (ah (az (bh ns) (ah (ae "_law_older") av)) av))) (an (bI pF (aB sr (az (bh ns) (ah (dm ["_law_came"] (.name "_law_parent") (fR ns (aB (aK ns) (ae "_law_older") (ae "_law_k"))) (aH (aB (aK ns) (ae "_law_came") (ae "_law_parent"))) (ae "_law_parent")) av)) (aE (.int 0))) (ae "_law_came") (ae "_law_k"))
 aw))
noncomputable def eQ (ns : List Int) : ST :=
 (bC (ae "_law_came"))
noncomputable def c7 (ns : List Int) : ST := (an (eU ns) (an (eT ns) (an (eR ns) (an (eQ ns) aw))))
theorem kL {C : Cx} (G : Gl C Hd.vw) (hz : C.held = none)   : HS C (aW Hd.vw 31) 0 (bF Hd.vw 31) (c7 C.ns) :=
 (ag (aJ (.inr rfl) (bf qA (bU (af bc aj rfl)) (be G rfl (af (ac rfl rfl) aj rfl) rfl)) (fun _ _ => rfl))
 (ag (bG jF bc (aM rfl rfl) (ac rfl rfl) (fun _ _ => rfl))
 (ag (a7 (aP rfl) (du G hz rfl (af (bf fP (ac rfl rfl) aL) (af (be G rfl (af (ac rfl rfl) aj rfl) rfl) aj rfl) rfl) rfl) (ag (bG jF (hX sA (be G rfl (af (ee (CompOk.of rfl) (bL G.ok hz (aR G (ac rfl rfl) (ac rfl rfl) rfl)) (aP rfl) (fu (bM (aR G (aM rfl rfl) (ac rfl rfl) rfl) (fun _ _ => rfl))) (ac rfl rfl) (fun _ _ => rfl)) aj rfl) rfl) aL rfl) (aM rfl rfl) (ac rfl rfl) (fun _ _ => rfl))
 am) (fun _ _ => rfl))
 (ag (aG (aM rfl rfl))
 am))))
theorem kr {C : Cx} (G : Gl C Hd.vw) (hz : C.held = none)   (hspec : ∀ vs σ Q, sp__law_came_of C.ns vs σ Q → vs.length = 2 ∧ c7 C.ns (aF ["_law_older", "_law_elder"] vs aN) σ (fin Q)) : FnAt C 0 "_law_came_of" (sp__law_came_of C.ns) :=
 FnAt.mk (xs := ["_law_older", "_law_elder"]) G 19 31 rfl rfl rfl rfl rfl (fun ws pm code doc h => by
  obtain ⟨w0, w1, rfl⟩ := k8 h
  rfl) rfl (kL G hz  ) hspec
noncomputable def cV (ns : List Int) : ST :=
 (bi "_law_theirs" (az (sp__law_elders_by ns) (ah (ae "_law_older") (ah (ae "_law_other") av))))
noncomputable def cU (ns : List Int) : ST :=
 (bi "_law_common" (dm ["_law_theirs"] (.name "_law_elder") (fR ns (az (sp__law_elders_by ns) (ah (ae "_law_older") (ah (ae "_law_one") av)))) (aH (aB qu (ae "_law_elder") (ae "_law_theirs"))) (ae "_law_elder")))
noncomputable def cT (ns : List Int) : ST :=
 (bi "_law_left" (bj "nearest" (sp_nearest ns) (ae "_law_book") (ah (ae "_law_one") (ah (ae "_law_other") av))))
noncomputable def cR (ns : List Int) : ST :=
 (bi "_law_right" (bj "nearest" (sp_nearest ns) (ae "_law_book") (ah (ae "_law_other") (ah (ae "_law_one") av))))
noncomputable def cQ (ns : List Int) : ST :=
 (dz (gg (dq (aH (az (sp__law_whole ns) (ah (ae "_law_left") av)))) (gg (dq (aH (az (sp__law_whole ns) (ah (ae "_law_right") av)))) (gg (aH (aB dv (ae "_law_left") (ae "_law_right"))) (gg (aH (aB dL (ae "_law_left") (ae "_law_common"))) tF)))) (an (bC (aE (.bool false)))
 aw) aw)
noncomputable def cP (ns : List Int) : ST :=
 (bi "_law_came" (az (sp__law_came_of ns) (ah (ae "_law_older") (ah (ae "_law_left") av))))
noncomputable def cO (ns : List Int) : ST :=
 (bC (aB bR (az (bh ns) (ah (dm ["_law_left", "_law_came"] (.name "_law_elder") (fR ns (ae "_law_common")) (gg (aH (aB sr (ae "_law_elder") (ae "_law_left"))) (gg (ie (aH (aB dv (ae "_law_elder") (ae "_law_left"))) (ie (aH (aB (aK ns) (ae "_law_came") (ae "_law_elder"))) tT)) tF)) (ae "_law_elder")) av)) (aE (.int 0))))
noncomputable def bQ (ns : List Int) : ST := (an (cV ns) (an (cU ns) (an (cT ns) (an (cR ns) (an (cQ ns) (an (cP ns) (an (cO ns) aw)))))))
theorem fW {C : Cx} (G : Gl C Hd.vw) (hz : C.held = none)  {bk N : Addr} {mN : Str → Option Value} (B : Bk C bk N mN) (h__law_elders_by : FnAt C 0 "_law_elders_by" (sp__law_elders_by C.ns)) (h_nearest : MtAt C mN 2 "nearest" (sp_nearest C.ns)) (h__law_whole : FnAt C 0 "_law_whole" (sp__law_whole C.ns)) (h__law_came_of : FnAt C 0 "_law_came_of" (sp__law_came_of C.ns)) : HS C (aW Hd.vw 32) 3 (bF Hd.vw 32) (bQ C.ns) :=
 (ag (aJ (.inr rfl) (aA G h__law_elders_by (by decide) rfl rfl (af (ac rfl rfl) (af (ac rfl rfl) aj rfl) rfl) rfl) (fun _ _ => rfl))
 (ag (cG (CompOk.of rfl) (bL G.ok hz (aA G h__law_elders_by (by decide) rfl rfl (af (ac rfl rfl) (af (ac rfl rfl) aj rfl) rfl) rfl)) (aP rfl) (fu (aT sy (ac rfl rfl) (aM rfl rfl) rfl)) (ac rfl rfl) (fun _ _ => rfl) rfl (cA rfl rfl rfl))
 (ag (aJ (.inr rfl) (aY G.ok B h_nearest (by decide) gS (ac rfl rfl) (af (ac rfl rfl) (af (ac rfl rfl) aj rfl) rfl) rfl (fun _ => rfl) rfl (by decide)) (fun _ _ => rfl))
 (ag (aJ (.inl rfl) (aY G.ok B h_nearest (by decide) gS (ac rfl rfl) (af (ac rfl rfl) (af (ac rfl rfl) aj rfl) rfl) rfl (fun _ => rfl) rfl (by decide)) (fun _ _ => rfl))
 (ag (aQ (bB (bu (b8 (bM (aA G h__law_whole (by decide) rfl rfl (af (aM rfl rfl) aj rfl) rfl) (fun _ _ => rfl))) (bu (b8 (bM (aA G h__law_whole (by decide) rfl rfl (af (ac rfl rfl) aj rfl) rfl) (fun _ _ => rfl))) (bu (aT gT (aM rfl rfl) (ac rfl rfl) rfl) (bu (aT gm (aM rfl rfl) (ac rfl rfl) rfl) bX))))) (ag (aG bc)
 am) am)
 (ag (aJ (.inr rfl) (aA G h__law_came_of (by decide) rfl rfl (af (ac rfl rfl) (af (aM rfl rfl) aj rfl) rfl) rfl) (fun _ _ => rfl))
 (ag (aG (hX ce (be G rfl (af (ee (CompOk.of rfl) (bL G.ok hz (ac rfl rfl)) (aP rfl) (fu (bB (bu (aT sA (ac rfl rfl) (aM rfl rfl) rfl) (bu (bB (eg (aT gT (ac rfl rfl) (aM rfl rfl) rfl) (eg (bM (aR G (aM rfl rfl) (ac rfl rfl) rfl) (fun _ _ => rfl)) fD))) bX)))) (ac rfl rfl) (fun _ _ => rfl)) aj rfl) rfl) aL rfl))
 am)))))))
theorem fT {C : Cx} (G : Gl C Hd.vw) (hz : C.held = none)  {bk N : Addr} {mN : Str → Option Value} (B : Bk C bk N mN) (h__law_elders_by : FnAt C 0 "_law_elders_by" (sp__law_elders_by C.ns)) (h_nearest : MtAt C mN 2 "nearest" (sp_nearest C.ns)) (h__law_whole : FnAt C 0 "_law_whole" (sp__law_whole C.ns)) (h__law_came_of : FnAt C 0 "_law_came_of" (sp__law_came_of C.ns)) (hspec : ∀ vs σ Q, sp__law_nearest_holds C.ns vs σ Q → vs.length = 4 ∧ bQ C.ns (aF ["_law_book", "_law_older", "_law_one", "_law_other"] vs aN) σ (fin Q)) : FnAt C 3 "_law_nearest_holds" (sp__law_nearest_holds C.ns) :=
 FnAt.mk (xs := ["_law_book", "_law_older", "_law_one", "_law_other"]) G 20 32 rfl rfl rfl rfl rfl (fun ws pm code doc h => by
  obtain ⟨w0, w1, w2, w3, rfl⟩ := sK h
  rfl) rfl (fW G hz  B h__law_elders_by h_nearest h__law_whole h__law_came_of) hspec
noncomputable def ga (ns : List Int) : ST :=
 (bi "_law_numbers" (cq (ah (ae "_law_number") (ah (ae "_law_one") (ah (ae "_law_other") av)))))
noncomputable def f9 (ns : List Int) : ST :=
 (bi "_law_theirs" (az (sp__law_elders_by ns) (ah (ae "_law_older") (ah (ae "_law_other") av))))
noncomputable def f8 (ns : List Int) : ST :=
 (bi "_law_near" (aB (aK ns) (ae "_law_theirs") (aB dM (aB fE (ae "_law_number") (ae "_law_one")) (az (bh ns) (ah (ae "_law_theirs") av)))))
noncomputable def f7 (ns : List Int) : ST :=
 (bi "_law_rows" (dm ["_law_book"] (.name "_law_each") (fR ns (ae "_law_numbers")) tT (bj "elders" (sp_elders ns) (ae "_law_book") (ah (ae "_law_each") av))))
noncomputable def f6 (ns : List Int) : ST :=
 (bi "_law_roads" (cq (ah (bj "road" (sp_road ns) (ae "_law_book") (ah (ae "_law_one") (ah (ae "_law_other") av))) (ah (bj "road" (sp_road ns) (ae "_law_book") (ah (ae "_law_near") (ah (ae "_law_other") av))) (ah (bj "road" (sp_road ns) (ae "_law_book") (ah (ae "_law_other") (ah (ae "_law_other") av))) av)))))
noncomputable def dS (ns : List Int) : ST :=
 (bi "_law_again" (dm ["_law_book"] (.name "_law_each") (fR ns (ae "_law_numbers")) tT (bj "elders" (sp_elders ns) (ae "_law_book") (ah (ae "_law_each") av))))
noncomputable def dQ (ns : List Int) : ST :=
 (ch (.name "_law_k") (cz (ah (aE (.int 3)) av)) (an (bi "_law_due" (az (sp__law_elders_by ns) (ah (ae "_law_older") (ah (aB (aK ns) (ae "_law_numbers") (ae "_law_k")) av))))
 (an (ch (.name "_law_row") (fR ns (cq (ah (aB (aK ns) (ae "_law_rows") (ae "_law_k")) (ah (aB (aK ns) (ae "_law_again") (ae "_law_k")) av)))) (an (dz (gg (dq (aH (az cn (ah (ae "_law_row") (ah (aE (.ty "list")) av))))) (gg (dq (aH (az (sp__law_are_whole ns) (ah (ae "_law_row") av)))) (gg (aH (aB jc (ae "_law_row") (ae "_law_due"))) tF))) (an (bC (aE (.bool false)))
 aw) aw)
 aw))
 (an (bO (br bN gh (aB (aK ns) (ae "_law_rows") (ae "_law_k")) av))
 aw))))
noncomputable def cY (ns : List Int) : ST :=
 (dz (gg (aH (aB jc (ae "_law_again") (dm ["_law_older"] (.name "_law_each") (fR ns (ae "_law_numbers")) tT (az (sp__law_elders_by ns) (ah (ae "_law_older") (ah (ae "_law_each") av)))))) (gg (aH (aB jc (aB (aK ns) (ae "_law_roads") (aE (.int 2))) (cq (ah (ae "_law_other") av)))) tF)) (an (bC (aE (.bool false)))
 aw) aw)
noncomputable def cX (ns : List Int) : ST :=
 (dz (dq (aH (az (sp__law_is_road ns) (ah (aB (aK ns) (ae "_law_roads") (aE (.int 1))) (ah (ae "_law_older") (ah (ae "_law_near") (ah (ae "_law_other") av))))))) (an (bC (aE (.bool false)))
 aw) aw)
noncomputable def cw (ns : List Int) : ST :=
 (dz (aH (aB dL (ae "_law_one") (ae "_law_theirs"))) (an (bC (aB tW (aB (aK ns) (ae "_law_roads") (aE (.int 0))) (aE .none)))
 aw) aw)
noncomputable def cv (ns : List Int) : ST :=
 (dz (dq (aH (az (sp__law_is_road ns) (ah (aB (aK ns) (ae "_law_roads") (aE (.int 0))) (ah (ae "_law_older") (ah (ae "_law_one") (ah (ae "_law_other") av))))))) (an (bC (aE (.bool false)))
 aw) aw)
noncomputable def cu (ns : List Int) : ST :=
 (bO (br bN gh (aB (aK ns) (ae "_law_roads") (aE (.int 0))) av))
noncomputable def ct (ns : List Int) : ST :=
 (bC (lb (az (sp__law_is_road ns) (ah (bj "road" (sp_road ns) (ae "_law_book") (ah (ae "_law_one") (ah (ae "_law_other") av))) (ah (ae "_law_older") (ah (ae "_law_one") (ah (ae "_law_other") av))))) (az (sp__law_is_road ns) (ah (aB (aK ns) (ae "_law_roads") (aE (.int 1))) (ah (ae "_law_older") (ah (ae "_law_near") (ah (ae "_law_other") av)))))))
noncomputable def dC (ns : List Int) : ST := (an (ga ns) (an (f9 ns) (an (f8 ns) (an (f7 ns) (an (f6 ns) (an (dS ns) (an (dQ ns) (an (cY ns) (an (cX ns) (an (cw ns) (an (cv ns) (an (cu ns) (an (ct ns) aw)))))))))))))
theorem mU {C : Cx} (G : Gl C Hd.vw) (hz : C.held = none)  {bk N : Addr} {mN : Str → Option Value} (B : Bk C bk N mN) (h__law_elders_by : FnAt C 0 "_law_elders_by" (sp__law_elders_by C.ns)) (h_elders : MtAt C mN 1 "elders" (sp_elders C.ns)) (h_road : MtAt C mN 1 "road" (sp_road C.ns)) (h__law_are_whole : FnAt C 1 "_law_are_whole" (sp__law_are_whole C.ns)) (h__law_is_road : FnAt C 2 "_law_is_road" (sp__law_is_road C.ns)) : HS C (aW Hd.vw 33) 3 (bF Hd.vw 33) (dC C.ns) :=
 (ag (aJ (.inl rfl) (bU (af (ac rfl rfl) (af (ac rfl rfl) (af (ac rfl rfl) aj rfl) rfl) rfl)) (fun _ _ => rfl))
 (ag (aJ (.inl rfl) (aA G h__law_elders_by (by decide) rfl rfl (af (aM rfl rfl) (af (ac rfl rfl) aj rfl) rfl) rfl) (fun _ _ => rfl))
 (ag (aJ (.inl rfl) (aR G (ac rfl rfl) (bf dO (bf fP (ac rfl rfl) (ac rfl rfl)) (be G rfl (af (ac rfl rfl) aj rfl) rfl)) rfl) (fun _ _ => rfl))
 (ag (cG (CompOk.of rfl) (bL G.ok hz (ac rfl rfl)) (aP rfl) fw (aY G.ok B h_elders (by decide) gl (aM rfl rfl) (af (ac rfl rfl) aj rfl) rfl (fun _ => rfl) rfl (by decide)) (fun _ _ => rfl) rfl (cA rfl rfl rfl))
 (ag (aJ (.inl rfl) (bU (af (aY G.ok B h_road (by decide) jE (aM rfl rfl) (af (ac rfl rfl) (af (ac rfl rfl) aj rfl) rfl) rfl (fun _ => rfl) rfl (by decide)) (af (aY G.ok B h_road (by decide) jE (aM rfl rfl) (af (ac rfl rfl) (af (ac rfl rfl) aj rfl) rfl) rfl (fun _ => rfl) rfl (by decide)) (af (aY G.ok B h_road (by decide) jE (aM rfl rfl) (af (ac rfl rfl) (af (ac rfl rfl) aj rfl) rfl) rfl (fun _ => rfl) rfl (by decide)) aj rfl) rfl) rfl)) (fun _ _ => rfl))
 (ag (cG (CompOk.of rfl) (bL G.ok hz (ac rfl rfl)) (aP rfl) fw (aY G.ok B h_elders (by decide) gl (aM rfl rfl) (af (ac rfl rfl) aj rfl) rfl (fun _ => rfl) rfl (by decide)) (fun _ _ => rfl) rfl (cA rfl rfl rfl))
 (ag (a7 (aP rfl) (du G hz rfl (af aL aj rfl) rfl) (ag (aJ (.inl rfl) (aA G h__law_elders_by (by decide) rfl rfl (af (aM rfl rfl) (af (aR G (ac rfl rfl) (ac rfl rfl) rfl) aj rfl) rfl) rfl) (fun _ _ => rfl))
 (ag (a7 (aP rfl) (bL G.ok hz (bU (af (aR G (ac rfl rfl) (ac rfl rfl) rfl) (af (aR G (ac rfl rfl) (ac rfl rfl) rfl) aj rfl) rfl))) (ag (aQ (bB (bu (b8 (bM (hJ G rfl (af (ac rfl rfl) (af (pg G rfl) aj rfl) rfl) rfl) (fun _ _ => rfl))) (bu (b8 (bM (aA G h__law_are_whole (by decide) rfl rfl (af (ac rfl rfl) aj rfl) rfl) (fun _ _ => rfl))) (bu (aT mj (ac rfl rfl) (ac rfl rfl) rfl) bX)))) (ag (aG bc)
 am) am)
 am) (fun _ _ => rfl))
 (ag (ba (pk (aR G (ac rfl rfl) (ac rfl rfl) rfl) aj rfl (fun _ => rfl) rfl (by decide)) (fun _ _ => rfl))
 am))) (fun _ _ => rfl))
 (ag (aQ (bB (bu (aT mj (ac rfl rfl) (ee (CompOk.of rfl) (bL G.ok hz (ac rfl rfl)) (aP rfl) fw (aA G h__law_elders_by (by decide) rfl rfl (af (aM rfl rfl) (af (ac rfl rfl) aj rfl) rfl) rfl) (fun _ _ => rfl)) rfl) (bu (aT mj (aR G (ac rfl rfl) aL rfl) (bU (af (ac rfl rfl) aj rfl)) rfl) bX))) (ag (aG bc)
 am) am)
 (ag (aQ (b8 (bM (aA G h__law_is_road (by decide) rfl rfl (af (aR G (ac rfl rfl) aL rfl) (af (aM rfl rfl) (af (ac rfl rfl) (af (ac rfl rfl) aj rfl) rfl) rfl) rfl) rfl) (fun _ _ => rfl))) (ag (aG bc)
 am) am)
 (ag (aQ (aT gm (ac rfl rfl) (ac rfl rfl) rfl) (ag (aG (hX xi (aR G (ac rfl rfl) aL rfl) jP rfl))
 am) am)
 (ag (aQ (b8 (bM (aA G h__law_is_road (by decide) rfl rfl (af (aR G (ac rfl rfl) aL rfl) (af (aM rfl rfl) (af (ac rfl rfl) (af (ac rfl rfl) aj rfl) rfl) rfl) rfl) rfl) (fun _ _ => rfl))) (ag (aG bc)
 am) am)
 (ag (ba (pk (aR G (ac rfl rfl) aL rfl) aj rfl (fun _ => rfl) rfl (by decide)) (fun _ _ => rfl))
 (ag (aG (eW (d9 (aA G h__law_is_road (by decide) rfl rfl (af (aY G.ok B h_road (by decide) jE (aM rfl rfl) (af (ac rfl rfl) (af (ac rfl rfl) aj rfl) rfl) rfl (fun _ => rfl) rfl (by decide)) (af (aM rfl rfl) (af (ac rfl rfl) (af (ac rfl rfl) aj rfl) rfl) rfl) rfl) rfl) (iL (aA G h__law_is_road (by decide) rfl rfl (af (aR G (ac rfl rfl) aL rfl) (af (aM rfl rfl) (af (ac rfl rfl) (af (ac rfl rfl) aj rfl) rfl) rfl) rfl) rfl)))))
 am)))))))))))))
theorem mI {C : Cx} (G : Gl C Hd.vw) (hz : C.held = none)  {bk N : Addr} {mN : Str → Option Value} (B : Bk C bk N mN) (h__law_elders_by : FnAt C 0 "_law_elders_by" (sp__law_elders_by C.ns)) (h_elders : MtAt C mN 1 "elders" (sp_elders C.ns)) (h_road : MtAt C mN 1 "road" (sp_road C.ns)) (h__law_are_whole : FnAt C 1 "_law_are_whole" (sp__law_are_whole C.ns)) (h__law_is_road : FnAt C 2 "_law_is_road" (sp__law_is_road C.ns)) (hspec : ∀ vs σ Q, sp__law_holds C.ns vs σ Q → vs.length = 5 ∧ dC C.ns (aF ["_law_book", "_law_older", "_law_number", "_law_one", "_law_other"] vs aN) σ (fin Q)) : FnAt C 3 "_law_holds" (sp__law_holds C.ns) :=
 FnAt.mk (xs := ["_law_book", "_law_older", "_law_number", "_law_one", "_law_other"]) G 21 33 rfl rfl rfl rfl rfl (fun ws pm code doc h => by
  obtain ⟨w0, w1, w2, w3, w4, rfl⟩ := yC h
  rfl) rfl (mU G hz  B h__law_elders_by h_elders h_road h__law_are_whole h__law_is_road) hspec
noncomputable def gc (ns : List Int) : ST :=
 (pJ ["_law_number", "_law_one", "_law_other"] (ae "_law_asked_here"))
noncomputable def gb (ns : List Int) : ST :=
 (bC (lb (az (sp__law_nearest_holds ns) (ah (ae "_law_book") (ah (ae "_law_older") (ah (ae "_law_one") (ah (ae "_law_other") av))))) (az (sp__law_holds ns) (ah (ae "_law_book") (ah (ae "_law_older") (ah (ae "_law_number") (ah (ae "_law_one") (ah (ae "_law_other") av))))))))
noncomputable def dD (ns : List Int) : ST := (an (gc ns) (an (gb ns) aw))
theorem mV {C : Cx} (G : Gl C Hd.vw) (hz : C.held = none)  (h__law_nearest_holds : FnAt C 3 "_law_nearest_holds" (sp__law_nearest_holds C.ns)) (h__law_holds : FnAt C 3 "_law_holds" (sp__law_holds C.ns)) : HS C (aW Hd.vw 34) 4 (bF Hd.vw 34) (dD C.ns) :=
 (ag (rP hz (l := [("_law_number", _), ("_law_one", _), ("_law_other", _)]) (by decide) (ac rfl rfl) (fun _ _ => rfl) (fun _ _ => rfl))
 (ag (aG (eW (d9 (aA G h__law_nearest_holds (by decide) rfl rfl (af (ac rfl rfl) (af (ac rfl rfl) (af (ac rfl rfl) (af (ac rfl rfl) aj rfl) rfl) rfl) rfl) rfl) (iL (aA G h__law_holds (by decide) rfl rfl (af (ac rfl rfl) (af (ac rfl rfl) (af (ac rfl rfl) (af (ac rfl rfl) (af (ac rfl rfl) aj rfl) rfl) rfl) rfl) rfl) rfl)))))
 am))
theorem mJ {C : Cx} (G : Gl C Hd.vw) (hz : C.held = none)  (h__law_nearest_holds : FnAt C 3 "_law_nearest_holds" (sp__law_nearest_holds C.ns)) (h__law_holds : FnAt C 3 "_law_holds" (sp__law_holds C.ns)) (hspec : ∀ vs σ Q, sp__law_asked C.ns vs σ Q → vs.length = 3 ∧ dD C.ns (aF ["_law_book", "_law_older", "_law_asked_here"] vs aN) σ (fin Q)) : FnAt C 4 "_law_asked" (sp__law_asked C.ns) :=
 FnAt.mk (xs := ["_law_book", "_law_older", "_law_asked_here"]) G 22 34 rfl rfl rfl rfl rfl (fun ws pm code doc h => by
  obtain ⟨w0, w1, w2, rfl⟩ := jA h
  rfl) rfl (mV G hz  h__law_nearest_holds h__law_holds) hspec
noncomputable def qM (ns : List Int) : ST :=
 (bi "_law_book" (vN (sp___init__ ns)))
noncomputable def qL (ns : List Int) : ST :=
 (bi "_law_older" (cq (ah (fg av) av)))
noncomputable def qK (ns : List Int) : ST :=
 (dz (aH (aB bR (aB dM (aB lq (az (sp__law_cell_at ns) (ah (ae "_law_script") (ah (aE (.int 3)) av))) (aE (.int 7))) (aE (.int 8))) (aE (.int 1)))) (an (ch (.name "_law_k") (cz (ah (aE (.int 90)) av)) (an (bO (bj "grow" (sp_grow ns) (ae "_law_book") (ah (ae "_law_k") (ah (cq av) av))))
 (an (bO (br bN bq (ae "_law_older") (ah (fg (ah (ae "_law_k") av)) av)))
 aw)))
 aw) aw)
noncomputable def ni (ns : List Int) : ST :=
 (bi "_law_cells" (ug ns (ae "_law_script") (nR (aE (.int 4))) (nR (aE (.int 64)))))
noncomputable def nh (ns : List Int) : ST :=
 (bi "_law_half" (aB dM (aB lq (az (sp__law_cell_at ns) (ah (ae "_law_script") (ah (aE (.int 3)) av))) (aE (.int 56))) (aB fE (az (bh ns) (ah (ae "_law_cells") av)) (aE (.int 1)))))
noncomputable def ng (ns : List Int) : ST :=
 (bi "_law_first" (cq (ah (aE (.int 0)) (ah (aE (.int 0)) (ah (aE (.int 0)) av)))))
noncomputable def nf (ns : List Int) : ST :=
 (ch (.name "_law_k") (cz (ah (aB fE (az (bh ns) (ah (ae "_law_cells") av)) (aE (.int 1))) av)) (an (dz (aH (aB bR (ae "_law_k") (ae "_law_half"))) (an (bi "_law_first" (dm ["_law_script", "_law_older"] (.name "_law_j") (cz (ah (aE (.int 3)) av)) tT (aB dM (az (sp__law_cell_at ns) (ah (ae "_law_script") (ah (ae "_law_j") av))) (az (bh ns) (ah (ae "_law_older") av)))))
 (an (dz (dq (aH (az (sp__law_asked ns) (ah (ae "_law_book") (ah (ae "_law_older") (ah (ae "_law_first") av)))))) (an (bC (aE (.bool false)))
 aw) aw)
 aw)) aw)
 (an (dz (ie (aH (aB nS (ae "_law_k") (az (bh ns) (ah (ae "_law_cells") av)))) (ie (dq (aH (az (sp__law_deed ns) (ah (ae "_law_book") (ah (ae "_law_older") (ah (aB (aK ns) (ae "_law_cells") (ae "_law_k")) av)))))) tT)) (an (bC (aE (.bool false)))
 aw) aw)
 aw)))
noncomputable def nd (ns : List Int) : ST :=
 (ch (.name "_law_number") (cz (ah (az (bh ns) (ah (ae "_law_older") av)) av)) (an (bi "_law_parents" (bj "parents" (sp_parents ns) (ae "_law_book") (ah (ae "_law_number") av)))
 (an (dz (gg (dq (aH (az cn (ah (ae "_law_parents") (ah (aE (.ty "tuple")) av))))) (gg (dq (aH (az (sp__law_are_whole ns) (ah (ae "_law_parents") av)))) (gg (aH (aB jc (ae "_law_parents") (aB (aK ns) (ae "_law_older") (ae "_law_number")))) tF))) (an (bC (aE (.bool false)))
 aw) aw)
 aw)))
noncomputable def nc (ns : List Int) : ST :=
 (bi "_law_later" (dm ["_law_script", "_law_older"] (.name "_law_j") (cz (ah (aE (.int 3)) av)) tT (aB dM (aB lq (az (sp__law_cell_at ns) (ah (ae "_law_script") (ah (ae "_law_j") av))) (aE (.int 7))) (az (bh ns) (ah (ae "_law_older") av)))))
noncomputable def kN (ns : List Int) : ST :=
 (bC (lb (aB bR (bj "many" (sp_many ns) (ae "_law_book") av) (az (bh ns) (ah (ae "_law_older") av))) (lb (az (sp__law_asked ns) (ah (ae "_law_book") (ah (ae "_law_older") (ah (ae "_law_first") av)))) (az (sp__law_asked ns) (ah (ae "_law_book") (ah (ae "_law_older") (ah (ae "_law_later") av)))))))
noncomputable def qN (ns : List Int) : ST := (an (qM ns) (an (qL ns) (an (qK ns) (an (ni ns) (an (nh ns) (an (ng ns) (an (nf ns) (an (nd ns) (an (nc ns) (an (kN ns) aw))))))))))
theorem xQ {C : Cx} (G : Gl C Hd.vw) (hz : C.held = none)  {bk N : Addr} {mN : Str → Option Value} (B : Bk C bk N mN) (h___init__ : MtAt C mN 0 "__init__" (sp___init__ C.ns)) (h__law_cell_at : FnAt C 0 "_law_cell_at" (sp__law_cell_at C.ns)) (h_grow : MtAt C mN 4 "grow" (sp_grow C.ns)) (h__law_asked : FnAt C 4 "_law_asked" (sp__law_asked C.ns)) (h__law_deed : FnAt C 7 "_law_deed" (sp__law_deed C.ns)) (h_parents : MtAt C mN 1 "parents" (sp_parents C.ns)) (h__law_are_whole : FnAt C 1 "_law_are_whole" (sp__law_are_whole C.ns)) (h_many : MtAt C mN 0 "many" (sp_many C.ns)) : HS C (aW Hd.vw 35) 8 (bF Hd.vw 35) (qN C.ns) :=
 (ag (aJ (.inl rfl) (we G.ok B h___init__ (by decide) rfl) (fun _ _ => rfl))
 (ag (aJ (.inr rfl) (bU (af (c8 aj) aj rfl)) (fun _ _ => rfl))
 (ag (aQ (aT ce (bf dO (bf mn (aA G h__law_cell_at (by decide) rfl rfl (af (aM rfl rfl) (af aL aj rfl) rfl) rfl) aL) aL) aL rfl) (ag (a7 (aP rfl) (du G hz rfl (af aL aj rfl) rfl) (ag (ba (aY G.ok B h_grow (by decide) qy (ac rfl rfl) (af (ac rfl rfl) (af (bU aj) aj rfl) rfl) rfl (fun _ => rfl) rfl (by decide)) (fun _ _ => rfl))
 (ag (ba (bW (aM rfl rfl) (af (c8 (af (ac rfl rfl) aj rfl)) aj rfl) rfl (fun _ => rfl) rfl (by decide)) (fun _ _ => rfl))
 am)) (fun _ _ => rfl))
 am) am)
 (ag (aJ (.inl rfl) (tz G.ok (aM rfl rfl) (nq aL) (nq aL)) (fun _ _ => rfl))
 (ag (aJ (.inl rfl) (bf dO (bf mn (aA G h__law_cell_at (by decide) rfl rfl (af (aM rfl rfl) (af aL aj rfl) rfl) rfl) aL) (bf fP (be G rfl (af (ac rfl rfl) aj rfl) rfl) aL)) (fun _ _ => rfl))
 (ag (aJ (.inl rfl) (bU (af aL (af aL (af aL aj rfl) rfl) rfl)) (fun _ _ => rfl))
 (ag (a7 (aP rfl) (du G hz rfl (af (bf fP (be G rfl (af (ac rfl rfl) aj rfl) rfl) aL) aj rfl) rfl) (ag (aQ (aT ce (ac rfl rfl) (ac rfl rfl) rfl) (ag (cG (CompOk.of rfl) (du G hz rfl (af aL aj rfl) rfl) (aP rfl) fw (bf dO (aA G h__law_cell_at (by decide) rfl rfl (af (aM rfl rfl) (af (ac rfl rfl) aj rfl) rfl) rfl) (be G rfl (af (aM rfl rfl) aj rfl) rfl)) (fun _ _ => rfl) rfl (cA rfl rfl rfl))
 (ag (aQ (b8 (bM (aA G h__law_asked (by decide) rfl rfl (af (ac rfl rfl) (af (aM rfl rfl) (af (ac rfl rfl) aj rfl) rfl) rfl) rfl) (fun _ _ => rfl))) (ag (aG bc)
 am) am)
 am)) am)
 (ag (aQ (bB (eg (aT nU (ac rfl rfl) (be G rfl (af (ac rfl rfl) aj rfl) rfl) rfl) (eg (b8 (bM (aA G h__law_deed (by decide) rfl rfl (af (ac rfl rfl) (af (aM rfl rfl) (af (aR G (ac rfl rfl) (ac rfl rfl) rfl) aj rfl) rfl) rfl) rfl) (fun _ _ => rfl))) fD))) (ag (aG bc)
 am) am)
 am)) (fun _ _ => rfl))
 (ag (a7 (aP rfl) (du G hz rfl (af (be G rfl (af (aM rfl rfl) aj rfl) rfl) aj rfl) rfl) (ag (aJ (.inl rfl) (aY G.ok B h_parents (by decide) pL (ac rfl rfl) (af (ac rfl rfl) aj rfl) rfl (fun _ => rfl) rfl (by decide)) (fun _ _ => rfl))
 (ag (aQ (bB (bu (b8 (bM (hJ G rfl (af (ac rfl rfl) (af (rR G rfl) aj rfl) rfl) rfl) (fun _ _ => rfl))) (bu (b8 (bM (aA G h__law_are_whole (by decide) rfl rfl (af (ac rfl rfl) aj rfl) rfl) (fun _ _ => rfl))) (bu (aT mj (ac rfl rfl) (aR G (aM rfl rfl) (ac rfl rfl) rfl) rfl) bX)))) (ag (aG bc)
 am) am)
 am)) (fun _ _ => rfl))
 (ag (cG (CompOk.of rfl) (du G hz rfl (af aL aj rfl) rfl) (aP rfl) fw (bf dO (bf mn (aA G h__law_cell_at (by decide) rfl rfl (af (aM rfl rfl) (af (ac rfl rfl) aj rfl) rfl) rfl) aL) (be G rfl (af (aM rfl rfl) aj rfl) rfl)) (fun _ _ => rfl) rfl (cA rfl rfl rfl))
 (ag (aG (eW (d9 (hX ce (aY G.ok B h_many (by decide) qx (ac rfl rfl) aj rfl (fun _ => rfl) rfl (by decide)) (be G rfl (af (aM rfl rfl) aj rfl) rfl) rfl) (d9 (aA G h__law_asked (by decide) rfl rfl (af (ac rfl rfl) (af (aM rfl rfl) (af (ac rfl rfl) aj rfl) rfl) rfl) rfl) (iL (aA G h__law_asked (by decide) rfl rfl (af (ac rfl rfl) (af (aM rfl rfl) (af (ac rfl rfl) aj rfl) rfl) rfl) rfl))))))
 am))))))))))
theorem xD {C : Cx} (G : Gl C Hd.vw) (hz : C.held = none)  {bk N : Addr} {mN : Str → Option Value} (B : Bk C bk N mN) (h___init__ : MtAt C mN 0 "__init__" (sp___init__ C.ns)) (h__law_cell_at : FnAt C 0 "_law_cell_at" (sp__law_cell_at C.ns)) (h_grow : MtAt C mN 4 "grow" (sp_grow C.ns)) (h__law_asked : FnAt C 4 "_law_asked" (sp__law_asked C.ns)) (h__law_deed : FnAt C 7 "_law_deed" (sp__law_deed C.ns)) (h_parents : MtAt C mN 1 "parents" (sp_parents C.ns)) (h__law_are_whole : FnAt C 1 "_law_are_whole" (sp__law_are_whole C.ns)) (h_many : MtAt C mN 0 "many" (sp_many C.ns)) (hspec : ∀ vs σ Q, l4 C.ns vs σ Q → vs.length = 1 ∧ qN C.ns (aF ["_law_script"] vs aN) σ (fin Q)) : FnAt C 8 "law" (l4 C.ns) :=
 FnAt.mk (xs := ["_law_script"]) G 23 35 rfl rfl rfl rfl rfl (fun ws pm code doc h => by
  obtain ⟨w0, rfl⟩ := mu h
  rfl) rfl (xQ G hz  B h___init__ h__law_cell_at h_grow h__law_asked h__law_deed h_parents h__law_are_whole h_many) hspec
end Mine
end
noncomputable section
set_option maxHeartbeats 1000000
namespace Mine
open PySem PySem.W PyProof.Rows PySem.Calls
section
variable {U : List (Str × V)} {σ σ' σ'' : ai} {b t mo : Addr} {ads : List Addr} {ts : List (List (Str × V))} {ps : List (List Int)} {Q : V → ai → Prop}
theorem BookAt.grow (B : BookAt U σ b t mo ads ts ps) (g : Grow σ σ') : BookAt U σ' b t mo ads ts ps :=
 ⟨let ⟨dx, h1, h2⟩ := B.obj; ⟨dx, g _ _ h1, g _ _ h2⟩, g _ _ B.tr, g _ _ B.md, B.ne, B.len, B.lenP, fun i d e => let ⟨kvs, ep, h1, h2⟩ := B.at_ i d e; ⟨kvs, ep, h1, g _ _ h2⟩, B.un, B.tree, B.ord⟩
theorem mW {σ : ai} {b dx t : Addr} {x : String} {fs : List (String × V)} {Q : V → ai → Prop} (h1 : σ b = some (.inst dx)) (h2 : σ dx = some (.ns fs)) (h3 : fs.lookup x = some (.ref t)) : mX x (.ref b) σ Q = Q (.ref t) σ := by
 refine propext ⟨fun h => ?_, fun q => ⟨b, dx, fs, t, rfl, h1, h2, h3, q⟩⟩
 obtain ⟨a, dx', fs', t', e, g1, g2, g3, q⟩ := h
 cases e
 rw [h1] at g1; cases g1
 rw [h2] at g2; cases g2
 rw [h3] at g3; cases g3
 exact q
theorem fX (B : BookAt U σ b t mo ads ts ps) : mX "trees" (.ref b) σ Q = Q (.ref t) σ := let ⟨dx, h1, h2⟩ := B.obj; mW h1 h2 (by simp [List.lookup])
theorem qd (B : BookAt U σ b t mo ads ts ps) : mX "made_of" (.ref b) σ Q = Q (.ref mo) σ := let ⟨dx, h1, h2⟩ := B.obj; mW h1 h2 (by simp [List.lookup])
theorem bA (B : BookAt U σ b t mo ads ts ps) {f : String} (h1 : (f == "made_of") = false) (h2 : (f == "trees") = false) : pR f (.ref b) σ = True := by
 obtain ⟨dx, h4, h5⟩ := B.obj
 exact eq_true ⟨b, dx, _, rfl, h4, h5, by simp [List.lookup, h1, h2]⟩
theorem BookAt.treeAt (B : BookAt U σ b t mo ads ts ps) {n : Nat} {kvs : List (Str × V)} (h : ts[n]? = some kvs) : ∃ d ep, ads[n]? = some d ∧ σ d = some (.dict kvs ep) := by
 have hlt : n < ads.length := by rw [B.len]; exact (List.getElem?_eq_some_iff.mp h).1
 obtain ⟨kvs', ep, h1, h2⟩ := B.at_ n _ (List.getElem?_eq_getElem hlt)
 rw [h] at h1; cases h1
 exact ⟨_, ep, List.getElem?_eq_getElem hlt, h2⟩
theorem BookAt.itemT (B : BookAt U σ b t mo ads ts ps) {n : Int} {kvs : List (Str × V)} {ns : List Int} (h0 : 0 ≤ n) (h : ts[n.toNat]? = some kvs) (q : ∀ d ep, σ d = some (.dict kvs ep) → Q (.ref d) σ) : aK ns (.ref t) (.int n) σ Q := by
 obtain ⟨d, ep, h1, h2⟩ := B.treeAt h
 exact bw B.tr h0 (by rw [List.getElem?_map, h1]; rfl) (q d ep h2)
theorem BookAt.itemM (B : BookAt U σ b t mo ads ts ps) {n : Int} {l : List Int} {ns : List Int} (h0 : 0 ≤ n) (h : ps[n.toNat]? = some l) (q : Q (.tup (l.map .int)) σ) : aK ns (.ref mo) (.int n) σ Q :=
 bw B.md h0 (by unfold bn; rw [List.getElem?_map, h]; rfl) q
@[simp] theorem yD {i : Int} : cn [.int i, .ty "bool"] σ Q = Q (.bool false) σ := by simp [cn, onVT, on2, on1, isT, Mine.uK]
theorem sJ (B : BookAt U σ b t mo ads ts ps) {ns : List Int} : bh ns [.ref t] σ Q = Q (.int ts.length) σ := by rw [aV B.tr, List.length_map, B.len]
theorem Grow.keep {S : List Addr} (g : Grow σ σ') (h : lf S σ' σ'') : lf S σ σ'' := fun b o e n => h b o (g b o e) n
end
theorem uZ (ns : List Int) : ∀ vs σ Q, sp_need ns vs σ Q → vs.length = 2 ∧ m8 ns (aF ["self", "number"] vs aN) σ (fin Q) := by
 rintro vs σ Q ⟨U, b, t, mo, ads, ts, ps, n, rfl, B, h0, h1, q⟩
 refine ⟨rfl, ?_⟩
 unfold m8
 rw [ak]
 simp [oW, fX B, sJ B, h0, h1]
 exact q
theorem u5 (ns : List Int) : ∀ vs σ Q, sp_many ns vs σ Q → vs.length = 1 ∧ m9 ns (aF ["self"] vs aN) σ (fin Q) := by
 rintro vs σ Q ⟨U, b, t, mo, ads, ts, ps, rfl, B, q⟩
 refine ⟨rfl, ?_⟩
 unfold m9
 rw [ak]
 simp [oX, fX B, sJ B]
 exact q
theorem eZ {ns : List Int} {U : List (Str × V)} {σ : ai} {b t mo : Addr} {ads : List Addr} {ts : List (List (Str × V))} {ps : List (List Int)} {Q : V → ai → Prop} (B : BookAt U σ b t mo ads ts ps) {n : Int} (h0 : 0 ≤ n) (h1 : n < ts.length) (q : Q .none σ) : sp_need ns [.ref b, .int n] σ Q := ⟨U, b, t, mo, ads, ts, ps, n, rfl, B, h0, h1, q⟩
theorem ra (ns : List Int) : ∀ vs σ Q, sp_parents ns vs σ Q → vs.length = 2 ∧ gr ns (aF ["self", "number"] vs aN) σ (fin Q) := by
 rintro vs σ Q ⟨U, b, t, mo, ads, ts, ps, n, l, rfl, B, h0, h, q⟩
 refine ⟨rfl, ?_⟩
 have h1 : n < ts.length := by
  have := (List.getElem?_eq_some_iff.mp h).1
  have := B.lenP
  omega
 unfold gr
 rw [ak]
 simp [jk, bA B]
 refine eZ B h0 h1 ?_
 rw [ak]
 simp [jj, qd B]
 exact B.itemM h0 h q
theorem u6 (ns : List Int) : ∀ vs σ Q, sp___init__ ns vs σ Q → vs.length = 1 ∧ fq ns (aF ["self"] vs aN) σ (fin Q) := by
 rintro vs σ Q ⟨a, dx, rfl, ha, hd, q⟩
 refine ⟨rfl, ?_⟩
 unfold fq
 rw [ak]
 simp [iK]
 intro d0 ep hd0 t ht
 have ht0 : t ≠ d0 := by rintro rfl; rw [au] at ht; cases ht
 rw [aC ht0] at ht
 have ne : ∀ {x y : Addr} {o : AObj}, σ x = some o → σ y = none → x ≠ y := by rintro x y o h1 h2 rfl; rw [h1] at h2; cases h2
 refine nN (a := a) (dx := dx) (fs := []) ?_ ?_ (by simp) ?_
 ·rw [aC (ne ha ht), aC (ne ha hd0)]; exact ha
 ·rw [aC (ne hd ht), aC (ne hd hd0)]; exact hd
 rw [ak]
 simp [iJ]
 intro mo hmo
 have hda : dx ≠ a := by rintro rfl; rw [ha] at hd; cases hd
 have m1 : mo ≠ dx := by rintro rfl; rw [au] at hmo; cases hmo
 rw [aC m1] at hmo
 have m2 : mo ≠ t := by rintro rfl; rw [au] at hmo; cases hmo
 rw [aC m2] at hmo
 have m3 : mo ≠ d0 := by rintro rfl; rw [au] at hmo; cases hmo
 rw [aC m3] at hmo
 refine nN (a := a) (dx := dx) ?_ ?_ ?_ ?_ (fs := [("trees", .ref t)])
 ·rw [aC (ne ha hmo), aC (Ne.symm hda), aC (ne ha ht), aC (ne ha hd0)]; exact ha
 ·rw [aC (Ne.symm m1), au]
 ·simp
 ·refine q t mo d0 ep _ ?_ ?_ ?_ ?_ ?_ (Ne.symm m2) ht hmo hd0
  ·intro x o hx hn
   have hxd : x ≠ dx := by simpa using hn
   rw [aC hxd, aC (ne hx hmo), aC hxd, aC (ne hx ht), aC (ne hx hd0)]; exact hx
  ·rw [au]
  ·rw [aC (ne hd ht).symm, aC (Ne.symm m2), aC (ne hd ht).symm, au]
  ·rw [aC m1, au]
  ·rw [aC (ne hd hd0).symm, aC (Ne.symm m3), aC (ne hd hd0).symm, aC (Ne.symm ht0), au]
theorem Grow.over {σ σ' : ai} {b : Addr} {o : AObj} (g : Grow σ σ') (hb : σ b = Option.none) : Grow σ (Mine.aZ σ' b o) := fun c o' e => by
 rw [aC (by rintro rfl; rw [hb] at e; cases e)]; exact g c o' e
theorem mx {kvs : List (Str × V)} {i : Nat} {v : V} (h : (kvs.map fun q => V.str q.1)[i]? = some v) : ∃ y, (keysOf kvs)[i]? = some y ∧ v = .str y := by
 rw [List.getElem?_map] at h
 obtain ⟨q, hq, rfl⟩ := Option.map_eq_some_iff.mp h
 exact ⟨q.1, by unfold keysOf; rw [List.getElem?_map, hq]; rfl, rfl⟩
theorem sm {ps : List (List Int)} {l : List Int} (o : Ord ps) (hz : ps.length < 200) (h2 : l.length ≤ 2) (h3 : l ≠ []) (hl : ∀ p ∈ l, 0 ≤ p ∧ p < (ps.length : Int)) : Ord (ps ++ [l]) := by
 have at_ : ∀ (k : Nat) m, (ps ++ [l])[k]? = some m → ps[k]? = some m ∨ (k = ps.length ∧ m = l) := fun k m e => by
  rcases Nat.lt_or_ge k ps.length with hi | hi
  ·rw [List.getElem?_append_left hi] at e; exact .inl e
  ·rw [List.getElem?_append_right hi] at e
   have hi2 : k - ps.length = 0 := by
    have := (List.getElem?_eq_some_iff.mp e).1
    simpa using this
   rw [hi2] at e
   simp at e
   exact .inr ⟨Nat.le_antisymm (Nat.le_of_sub_eq_zero hi2) hi, e.symm⟩
 refine ⟨fun k m e => ?_, fun k m e => ?_, fun k m e hk => ?_, by rw [List.length_append]; exact hz, by rw [List.length_append]; exact Nat.succ_pos _⟩
 ·rcases at_ k m e with h | ⟨rfl, rfl⟩
  ·exact o.two k m h
  ·exact h2
 ·rcases at_ k m e with h | ⟨rfl, rfl⟩
  ·exact o.lt k m h
  ·exact hl
 ·rcases at_ k m e with h | ⟨rfl, rfl⟩
  ·exact o.some k m h hk
  ·exact h3
theorem tV {U : List (Str × V)} {σ : ai} {b t mo : Addr} {ads : List Addr} {ts : List (List (Str × V))} {ps : List (List Int)} (B : BookAt U σ b t mo ads ts ps) {d : Addr} {kvs : List (Str × V)} {ep : Nat} {l : List Int} (hd : σ d = some (.dict kvs ep)) (ht : Inn U kvs) (hz : ts.length < 200) (hl2 : l.length ≤ 2) (hl3 : l ≠ []) (hl : ∀ p ∈ l, 0 ≤ p ∧ p < (ts.length : Int)) :
  lf [t, mo] σ (aZ (aZ σ t (.list (ads.map .ref ++ [.ref d]))) mo (.list (bn ps ++ [.tup (l.map .int)]))) ∧ BookAt U (aZ (aZ σ t (.list (ads.map .ref ++ [.ref d]))) mo (.list (bn ps ++ [.tup (l.map .int)]))) b t mo (ads ++ [d]) (ts ++ [kvs]) (ps ++ [l]) := by
 have K : lf [t, mo] σ (aZ (aZ σ t (.list (ads.map .ref ++ [.ref d]))) mo (.list (bn ps ++ [.tup (l.map .int)]))) := by
  intro x o e n
  simp at n
  rw [aC n.2, aC n.1]; exact e
 obtain ⟨dx, h1, h2⟩ := B.obj
 have off : ∀ {x : Addr} {o : AObj}, σ x = some o → (∀ xs, o ≠ .list xs) → x ∉ [t, mo] := by
  intro x o e ho hm
  simp at hm
  rcases hm with rfl | rfl
  ·rw [B.tr] at e; cases e; exact ho _ rfl
  ·rw [B.md] at e; cases e; exact ho _ rfl
 refine ⟨K, ⟨⟨dx, K _ _ h1 (off h1 (by simp)), K _ _ h2 (off h2 (by simp))⟩, ?_, ?_, B.ne, by simp [B.len], by simp [B.lenP], fun i a e => ?_, B.un, fun k hk => ?_, sm B.ord (by rw [B.lenP]; exact hz) hl2 hl3 (by rw [B.lenP]; exact hl)⟩⟩
 ·rw [aC B.ne, au]; simp
 ·rw [au]; simp [bn]
 ·rcases Nat.lt_or_ge i ads.length with hi | hi
  ·rw [List.getElem?_append_left hi] at e
   obtain ⟨kv, ep', g1, g2⟩ := B.at_ i a e
   exact ⟨kv, ep', by rw [List.getElem?_append_left (by rw [← B.len]; exact hi)]; exact g1, K _ _ g2 (off g2 (by simp))⟩
  ·rw [List.getElem?_append_right hi] at e
   have hi2 : i - ads.length = 0 := by
    have := (List.getElem?_eq_some_iff.mp e).1
    simpa using this
   rw [hi2] at e
   simp at e
   subst e
   exact ⟨kvs, ep, by rw [List.getElem?_append_right (by rw [← B.len]; exact hi), ← B.len, hi2]; rfl, K _ _ hd (off hd (by simp))⟩
 ·rcases List.mem_append.mp hk with hk | hk
  ·exact B.tree _ hk
  ·simp at hk; subst hk; exact ht
theorem pH (ns : List Int) : ∀ vs σ Q, sp_put_down ns vs σ Q → vs.length = 3 ∧ fj ns (aF ["self", "tree", "parents"] vs aN) σ (fin Q) := by
 rintro vs σ Q ⟨U, b, t, mo, ads, ts, ps, d, kvs, ep, l, rfl, B, hd, ht, hz, hl2, hl3, hl, q⟩
 refine ⟨rfl, ?_⟩
 obtain ⟨K, B'⟩ := tV B hd ht hz hl2 hl3 hl
 obtain ⟨dx, h1, h2⟩ := B.obj
 have bt : b ≠ t := by rintro rfl; rw [B.tr] at h1; cases h1
 have dt : dx ≠ t := by rintro rfl; rw [B.tr] at h2; cases h2
 have h1' : aZ σ t (.list (ads.map .ref ++ [.ref d])) b = some (.inst dx) := by rw [aC bt]; exact h1
 have h2' : aZ σ t (.list (ads.map .ref ++ [.ref d])) dx = some (.ns [("made_of", .ref mo), ("trees", .ref t)]) := by rw [aC dt]; exact h2
 have h3' : aZ σ t (.list (ads.map .ref ++ [.ref d])) mo = some (.list (bn ps)) := by rw [aC (Ne.symm B.ne)]; exact B.md
 have len := B.len
 have lenP := B.lenP
 unfold fj
 rw [ak]
 simp [iF, fX B, bZ B.tr]
 refine cF B.tr (by rw [List.length_map]; omega) ?_
 rw [ak]
 simp [iE, mW h1' h2' (x := "made_of") (t := mo) (by simp [List.lookup]), bZ h3']
 refine cF h3' (by simp [bn]; omega) ?_
 rw [ak]
 simp [iD, fX B', sJ B']
 exact q _ K B'
@[simp] theorem w8 (ns : List Int) {p : Str × Str} {σ : ai} {Q : V → ai → Prop} (q : Q (.str p.1) σ) : aK ns (jz p) (.int 1) σ Q := ⟨by show 3 < 16777217; decide, 1, _, rfl, rfl, q⟩
theorem w9 (ns : List Int) {p : Str × Str} {σ : ai} {Q : V → ai → Prop} (q : Q (.str (Str.ofString "put")) σ) : aK ns (jz p) (.int 0) σ Q := ⟨by show 3 < 16777217; decide, 0, _, rfl, rfl, q⟩
theorem w7 (ns : List Int) {p : Str × Str} {σ : ai} {Q : V → ai → Prop} (q : Q (.str p.2) σ) : aK ns (jz p) (.int 2) σ Q := ⟨by show 3 < 16777217; decide, 2, _, rfl, rfl, q⟩
theorem uh : Str.ofString "put" ≠ Str.ofString "cut" := by decide
theorem Anc.le {ps : List (List Int)} (ho : ∀ (k : Nat) l, ps[k]? = some l → ∀ p ∈ l, 0 ≤ p ∧ p < (k : Int)) {n x : Int} (h : Anc ps n x) (h0 : 0 ≤ n) : 0 ≤ x ∧ x ≤ n := by
 induction h with
 | self n => exact ⟨h0, Int.le_refl _⟩
 | up h1 h2 _ ih =>
  have := ho _ _ h1 _ h2
  have := ih this.1
  omega
structure Found (ps : List (List Int)) (n : Int) (i : Nat) (kvs : List (Int × V)) : Prop where
 anc : ∀ x ∈ kvs.map (·.1), Anc ps n x
 self : n ∈ kvs.map (·.1)
 up : ∀ x ∈ kvs.map (·.1), n - i < x → ∀ l, ps[x.toNat]? = some l → ∀ p ∈ l, p ∈ kvs.map (·.1)
 nodup : (kvs.map (·.1)).Nodup
theorem Found.all {ps : List (List Int)} {n : Int} {i : Nat} {kvs : List (Int × V)} (F : Found ps n i kvs) (ho : ∀ (k : Nat) l, ps[k]? = some l → ∀ p ∈ l, 0 ≤ p ∧ p < (k : Int)) (h0 : 0 ≤ n) (hi : n < i) : ∀ x, x ∈ kvs.map (·.1) ↔ Anc ps n x := by
 intro x
 refine ⟨F.anc x, fun h => ?_⟩
 have key : ∀ {y x : Int}, Anc ps y x → y ∈ kvs.map (·.1) → x ∈ kvs.map (·.1) := by
  intro y x h
  induction h with
  | self _ => exact id
  | up h1 h2 _ ih =>
   intro hy
   have := ((F.anc _ hy).le ho h0).1
   exact ih (F.up _ hy (by omega) _ h1 _ h2)
 exact key h F.self
theorem eD : ∀ {n : Nat} {l : List Int}, l.Nodup → (∀ x ∈ l, 0 ≤ x ∧ x < (n : Int)) → l.length ≤ n
 | 0, [], _, _ => Nat.le_refl _
 | 0, x :: r, _, h => by have := h x (.head _); omega
 | n + 1, l, hn, h => by
  by_cases hm : (n : Int) ∈ l
  ·have h1 := eD (n := n) (l := l.erase n) (hn.erase _) fun x hx => by
    have h2 := (hn.mem_erase_iff).mp hx
    have h3 := h x h2.2
    have h4 := h2.1
    omega
   rw [List.length_erase_of_mem hm] at h1
   omega
  ·have h1 := eD (n := n) (l := l) hn fun x hx => by
    have h3 := h x hx
    have h4 : x ≠ n := fun e => hm (e ▸ hx)
    omega
   omega
theorem ub {l : List Int} (h : l.Nodup) : (my l).Pairwise (· < ·) := by
 have h1 := jg l
 have h2 : (my l).Nodup := (gp l).nodup_iff.mpr h
 rw [List.nodup_iff_pairwise_ne] at h2
 exact (h1.and h2).imp fun ⟨a, b⟩ => by omega
end Mine
end
noncomputable section
set_option maxRecDepth 10000
namespace Mine
open PySem PySem.W PyProof.Rows PySem.Calls
@[simp] theorem yx {ns : List Int} {σ : ai} {Q : V → ai → Prop} {x : Str} : sp_is_part ns [.str x] σ Q = (x.length ≤ 1000 ∧ Q (.bool (ds x)) σ) := propext ⟨fun ⟨_, e, h, q⟩ => by cases e; exact ⟨h, q⟩, fun h => ⟨_, rfl, h.1, h.2⟩⟩
@[simp] theorem xV {ns : List Int} {σ : ai} {Q : V → ai → Prop} {k : Int} : sp__law_cell_at ns [.script, .int k] σ Q = (0 ≤ k ∧ Q (.int (cell ns k)) σ) := propext ⟨fun ⟨_, e, h, q⟩ => by cases e; exact ⟨h, q⟩, fun h => ⟨_, rfl, h.1, h.2⟩⟩
theorem q8 {x : Str} {i : Nat} {v : V} (h : (gE x)[i]? = some v) : ∃ c, (cl x)[i]? = some c ∧ v = .str ⟨#[c]⟩ := by
 unfold gE at h
 rw [List.getElem?_map] at h
 obtain ⟨c, h1, rfl⟩ := Option.map_eq_some_iff.mp h
 exact ⟨c, h1, rfl⟩
theorem q7 (x : Str) : (gE x).length = (cl x).length := by simp [gE]
theorem ld {f : Nat → Bool} {l : List Nat} {i : Nat} {c : Nat} (h : (l.take i).all f = true) (hc : l[i]? = some c) (hf : f c = true) : (l.take (i + 1)).all f = true := by
 rw [List.take_add_one, hc, List.all_append, h]; simp [hf]
theorem wT (ns : List Int) : ∀ vs σ Q, sp_is_part ns vs σ Q → vs.length = 1 ∧ gw ns (aF ["text"] vs aN) σ (fin Q) := by
 rintro vs σ Q ⟨x, rfl, hx, q⟩
 refine ⟨rfl, ?_⟩
 have loop : (x ≠ Str.ofString "." ∧ x ≠ Str.ofString ".." ∧ 1 ≤ x.length ∧ x.length ≤ 12) → fZ ns (put aN "text" (.str x)) σ (mv (an (fY ns) aw) (fin Q)) := by
  intro hg
  simp [fZ]
  refine bd (fun i m σ' => σ' = σ ∧ ((cl x).take i).all (fun c => Txt.contains yt ⟨#[c]⟩) = true) (fun u m σ' => σ' = σ ∧ u = .bool false ∧ ds x = false) (fun _ _ _ _ => trivial) _ ?_ ?_ ?_ _ _ ⟨rfl, by simp⟩
  ·rintro i v m σ' Q' hv ⟨rfl, h⟩ n1 n2 n3
   obtain ⟨c, hc, rfl⟩ := q8 hv
   refine ⟨_, rfl, ?_⟩
   simp [ak]
   split
   ·rename_i e; exact n1 _ _ ⟨rfl, ld h hc e⟩
   ·rename_i e
    refine n3 _ _ _ ⟨rfl, rfl, ?_⟩
    unfold ds
    rw [Bool.and_eq_false_iff]
    right
    rw [List.all_eq_false]
    exact ⟨c, List.mem_of_getElem? hc, by simpa [yt] using e⟩
  ·rintro m σ' ⟨rfl, h⟩
   rw [q7, List.take_length] at h
   have : ds x = true := by unfold ds; rw [Bool.and_eq_true]; exact ⟨decide_eq_true hg, h⟩
   rw [this] at q
   simpa [ak, fY] using q
  ·rintro u m σ' ⟨rfl, rfl, h⟩
   rw [h] at q
   simpa using q
 have bad : ¬ (x ≠ Str.ofString "." ∧ x ≠ Str.ofString ".." ∧ 1 ≤ x.length ∧ x.length ≤ 12) → ds x = false := fun h => by
  unfold ds; rw [decide_eq_false h]; rfl
 unfold gw
 rw [ak]
 simp [js, ak]
 by_cases h1 : x = Str.ofString "."
 ·rw [bad (by simp [h1])] at q; simpa [h1] using q
 by_cases h2 : x = Str.ofString ".."
 ·rw [bad (by simp [h2])] at q; simpa [h1, h2] using q
 simp [h1, h2]
 refine ⟨by omega, ?_⟩
 by_cases h3 : 1 ≤ x.length
 ·by_cases h4 : x.length ≤ 12
  ·have h3' : (1 : Int) ≤ x.length := by omega
   have h4' : (x.length : Int) ≤ 12 := by omega
   simp [h3', h4']
   exact loop ⟨h1, h2, h3, h4⟩
  ·have h3' : (1 : Int) ≤ x.length := by omega
   have h4' : ¬ (x.length : Int) ≤ 12 := by omega
   rw [bad (by omega)] at q
   simpa [h3', h4', ak] using q
 ·have h3' : ¬ (1 : Int) ≤ x.length := by omega
  rw [bad (by omega)] at q
  simpa [h3', ak] using q
theorem si {x p : Str} (hp : p ∈ Txt.split x (Str.ofString "/")) : p.length ≤ x.length := by
 have h0 := PyProof.Rows.split_pos x (Str.ofString "/")
 have h := PyProof.Rows.split_weight x (Str.ofString "/") (by rw [l7]; exact Nat.le_refl 1)
 have key : ∀ (l : List Str), p ∈ l → p.length ≤ (l.map (·.length)).sum := by
  intro l
  induction l with
  | nil => intro h; cases h
  | cons y r ih =>
   intro h
   rw [List.map_cons, List.sum_cons]
   rcases List.mem_cons.mp h with e | h
   ·rw [e]; exact Nat.le_add_right _ _
   ·exact Nat.le_trans (ih h) (Nat.le_add_left _ _)
 exact Nat.le_of_succ_le_succ (Nat.le_trans (Nat.add_le_add (key _ hp) h0) h)
theorem uY (ns : List Int) : ∀ vs σ Q, sp_is_path ns vs σ Q → vs.length = 1 ∧ gv ns (aF ["text"] vs aN) σ (fin Q) := by
 rintro vs σ Q ⟨x, rfl, hx, q⟩
 refine ⟨rfl, ?_⟩
 unfold gv
 rw [ak]
 simp [jr, l7]
 refine ⟨by omega, fun a ha => ?_⟩
 replace q := q _ (Grow.refl.upd (o := .list ((Txt.split x (Str.ofString "/")).map .str)) ha)
 have ha' := au σ a (.list ((Txt.split x (Str.ofString "/")).map .str))
 generalize (aZ σ a (.list ((Txt.split x (Str.ofString "/")).map .str))) = σ₁ at q ha' ⊢
 show an _ _ _ _ _
 rw [ak]
 simp [jq, aV ha', ak]
 split
 ·rename_i h
  have : db x = false := by unfold db; rw [decide_eq_false (by omega)]; rfl
  rw [this] at q
  exact q
 ·rename_i h
  simp [jp, bb ha']
  refine bd (fun i m σ' => σ' = σ₁ ∧ ((Txt.split x (Str.ofString "/")).take i).all ds = true) (fun u m σ' => σ' = σ₁ ∧ u = .bool false ∧ db x = false) (fun i m σ' h => by rw [h.1]; exact ha') _ ?_ ?_ ?_ _ _ ⟨rfl, by simp⟩
  ·rintro i v m σ' Q' hv ⟨rfl, h⟩ n1 n2 n3
   rw [List.getElem?_map] at hv
   obtain ⟨pt, hp, rfl⟩ := Option.map_eq_some_iff.mp hv
   have hl := si (List.mem_of_getElem? hp)
   refine ⟨_, rfl, ?_⟩
   simp [ak]
   refine ⟨by omega, ?_⟩
   split
   ·rename_i e
    refine n1 _ _ ⟨rfl, ?_⟩
    rw [List.take_add_one, hp, List.all_append, h]; simp [e]
   ·rename_i e
    refine n3 _ _ _ ⟨rfl, rfl, ?_⟩
    unfold db
    rw [Bool.and_eq_false_iff]
    right
    rw [List.all_eq_false]
    exact ⟨pt, List.mem_of_getElem? hp, e⟩
  ·rintro m σ' ⟨rfl, h'⟩
   rw [List.length_map, List.take_length] at h'
   have : db x = true := by unfold db; rw [h', decide_eq_true (by omega)]; rfl
   rw [this] at q
   simpa [ak, jo] using q
  ·rintro u m σ' ⟨rfl, rfl, h⟩
   rw [h] at q
   simpa using q
theorem wU (ns : List Int) : ∀ vs σ Q, sp_is_beneath ns vs σ Q → vs.length = 2 ∧ dA ns (aF ["path", "upper"] vs aN) σ (fin Q) := by
 rintro vs σ Q ⟨x, y, rfl, hy, q⟩
 refine ⟨rfl, ?_⟩
 unfold dA
 rw [ak]
 simp [f3]
 exact ⟨by rw [l7]; omega, q⟩
theorem j7 {x : Str} (y : Str) (h : 47 ∉ cl x) : Txt.startswith x (y ++ Str.ofString "/") = false := by
 cases e : Txt.startswith x (y ++ Str.ofString "/") with
 | false => rfl
 | true =>
  rw [pA, iZ, qp] at e
  exact absurd (e.subset (List.mem_append_right _ (List.mem_cons_self ..))) h
theorem lk {x : Str} (h : 47 ∉ cl x) : Txt.split x (Str.ofString "/") = [x] := pC (xs := [x]) (fun y hy => by rw [List.mem_singleton.mp hy]; exact h) (by simp)
theorem eB {α : Type} [DecidableEq α] : ∀ {l m : List α}, l.Nodup → (∀ x ∈ l, x ∈ m) → l.length ≤ m.length
 | [], _, _, _ => Nat.zero_le _
 | x :: r, m, h, hs => by
  have hx := hs x (List.mem_cons_self ..)
  have h2 := List.nodup_cons.mp h
  have ih := eB (l := r) (m := m.erase x) h2.2 fun y hy => (List.mem_erase_of_ne (by rintro rfl; exact h2.1 hy)).mpr (hs y (List.mem_cons_of_mem _ hy))
  rw [List.length_erase_of_mem hx] at ih
  exact Nat.le_trans (Nat.succ_le_succ ih) (Nat.le_of_eq (Nat.succ_pred_eq_of_pos (List.length_pos_of_mem hx)))
section
variable {U W kvs : List (Str × V)} {x : Str} {v : V}
theorem Inn.key (h : Inn U kvs) (hx : x ∈ keysOf kvs) : x ∈ keysOf U := by
 obtain ⟨q, hq, rfl⟩ := List.mem_map.mp hx
 exact List.mem_map.mpr ⟨q, h.sub q hq, rfl⟩
theorem Inn.len (h : Inn U kvs) (hU : U.length ≤ 200) : kvs.length ≤ 200 := by
 have := eB h.nodup fun x hx => h.key hx
 unfold keysOf at this
 rw [List.length_map, List.length_map] at this
 exact Nat.le_trans this hU
theorem Inn.mono (h : Inn U kvs) : Inn (U ++ W) kvs := ⟨fun q hq => List.mem_append_left _ (h.sub q hq), h.nodup⟩
theorem Inn.nil : Inn U [] := ⟨fun _ h => (nomatch h), List.nodup_nil⟩
theorem Inn.put (h : Inn U kvs) (hm : (x, v) ∈ U) : Inn U (cf kvs x v) := ⟨fun q hq => (nA hq).elim (fun e => e ▸ hm) (h.sub q), gD h.nodup⟩
theorem Un.at (h : Un U) (hx : x ∈ keysOf U) : 47 ∉ cl x ∧ x.length ≤ 12 := by
 obtain ⟨q, hq, rfl⟩ := List.mem_map.mp hx
 exact h.key q hq
theorem Un.left (h : Un (U ++ W)) : Un U := ⟨Nat.le_trans (by rw [List.length_append]; exact Nat.le_add_right _ _) h.len, fun q hq => h.key q (List.mem_append_left _ hq), fun q hq => h.val q (List.mem_append_left _ hq), by
 have := h.nodup
 unfold keysOf at this ⊢
 rw [List.map_append] at this
 exact (List.nodup_append.mp this).1⟩
end
theorem u8 (ns : List Int) : ∀ vs σ Q, sp_done ns vs σ Q → vs.length = 2 ∧ nk ns (aF ["tree", "deed"] vs aN) σ (fin Q) := by
 rintro vs σ Q ⟨U, a, kvs, ep, p, rfl, ha, ht, hu, hp, q⟩
 refine ⟨rfl, ?_⟩
 have hk := hu.key (p.1, .str p.2) (List.mem_append_right _ (List.mem_cons_self ..))
 have len := ht.len hu.left.len
 unfold nk
 rw [ak]
 simp [pb]
 refine w8 ns ?_
 rw [ak]
 simp [o9]
 refine ⟨p.1, rfl, Nat.le_trans hk.2 (by decide), fun σ₁ g1 => ?_⟩
 simp [hp]
 rw [ak]
 simp [o8]
 have ha1 := g1 _ _ ha
 refine kz ha1 fun b eb hb => ?_
 have hbn := g1.none hb
 have xb := au σ₁ b (.dict kvs eb)
 have g2 : Grow σ (aZ σ₁ b (.dict kvs eb)) := g1.upd hb
 have ha2 : aZ σ₁ b (.dict kvs eb) a = some (.dict kvs ep) := by rw [aC (by rintro rfl; rw [ha1] at hb; cases hb)]; exact ha1
 generalize (aZ σ₁ b (.dict kvs eb)) = σ₂ at xb g2 ha2 ⊢
 rw [ak]
 simp [o7]
 refine w9 ns ?_
 simp [uh]
 rw [ak]
 simp [o6, dF ha2]
 refine bd (fun i m σ' => σ' = σ₂ ∧ m "path" = some (.str p.1) ∧ m "fresh" = some (.ref b) ∧ m "deed" = some (jz p)) (fun _ _ _ => False)
  (fun i m σ' h => by rw [h.1]; exact ha2) _ ?_ ?_ (fun _ _ _ h => h.elim) _ _ ⟨rfl, by simp, by simp, by simp⟩
 ·rintro i v m σ' Q' hv ⟨rfl, hm, hf', hd⟩ n1 n2 n3
  obtain ⟨y, hy, rfl⟩ := mx hv
  have hyk := hu.left.at (ht.key (List.mem_of_getElem? hy))
  refine ⟨_, rfl, ?_⟩
  simp [ak, hm]
  refine ⟨p.1, y, rfl, Nat.le_trans hyk.2 (by decide), ?_⟩
  simp [j7 y hk.1]
  refine ⟨y, p.1, rfl, Nat.le_trans hk.2 (by decide), ?_⟩
  simp [j7 p.1 hyk.1]
  exact n1 _ _ ⟨rfl, by simp [hm], by simp [hf'], by simp [hd]⟩
 ·rintro m σ' ⟨rfl, hm, hf', hd⟩
  rw [aU, ak]
  simp [o5, hd, hf', hm]
  refine w7 ns ?_
  refine jU xb (Nat.lt_of_le_of_lt len (by decide)) fun ep' => ?_
  rw [ak]
  simp [o0, hf']
  exact q b _ ep' _ (g2.over hbn) hbn (au _ _ _) (ht.mono.put (List.mem_append_right _ (List.mem_cons_self ..)))
theorem re (ns : List Int) : ∀ vs σ Q, sp_changed ns vs σ Q → vs.length = 2 ∧ gz ns (aF ["tree", "deeds"] vs aN) σ (fin Q) := by
 rintro vs σ Q ⟨U, a, L, kvs, ep, dl, rfl, ha, hL, hd, ht, hu, hp, q⟩
 refine ⟨rfl, ?_⟩
 unfold gz
 rw [ak]
 simp [jy]
 refine kz ha fun b eb hb => ?_
 have xb := au σ b (.dict kvs eb)
 have g2 : Grow σ (aZ σ b (.dict kvs eb)) := Grow.refl.upd hb
 have hL2 := g2 _ _ hL
 generalize (aZ σ b (.dict kvs eb)) = σ₂ at xb g2 hL2 ⊢
 rw [ak]
 simp [jx, bb hL2]
 rcases dl with _ | ⟨p, _ | ⟨_, _⟩⟩
 ·refine ⟨hL2, ?_⟩
  rw [aU, ak]
  simp [f4]
  exact q b kvs eb σ₂ g2 hb xb ht.mono
 ·refine ⟨hL2, _, rfl, ?_⟩
  rw [ak]
  simp
  refine ⟨U, b, kvs, eb, p, rfl, xb, ht, hu, hp p (List.mem_cons_self ..), fun b2 k2 ep2 σ2 g3 hb2 x2 i2 => ?_⟩
  try simp
  refine ⟨g3 _ _ hL2, ?_⟩
  rw [aU, ak]
  simp [f4]
  exact q b2 k2 ep2 σ2 (g2.trans g3) (g2.none hb2) x2 i2
 ·exact absurd (Nat.le_of_succ_le_succ hd) (Nat.not_succ_le_zero _)
theorem u7 (ns : List Int) : ∀ vs σ Q, sp_grow ns vs σ Q → vs.length = 3 ∧ nj ns (aF ["self", "parent", "deeds"] vs aN) σ (fin Q) := by
 rintro vs σ Q ⟨U, b, t, mo, ads, ts, ps, n, L, dl, rfl, B, h0, h1, hL, hd, hu, hp, hz, q⟩
 refine ⟨rfl, ?_⟩
 obtain ⟨kvs, h⟩ : ∃ kvs, ts[n.toNat]? = some kvs := ⟨_, List.getElem?_eq_getElem (ei h0 h1)⟩
 unfold nj
 rw [ak]
 simp [oZ, bA B]
 refine eZ B h0 h1 ?_
 rw [ak]
 simp [oY, bA B, fX B]
 refine B.itemT h0 h fun a ep ha => ?_
 refine ⟨U, a, L, kvs, ep, dl, rfl, ha, hL, hd, B.tree _ (List.mem_of_getElem? h), hu, hp, fun d k' ep' σ' g hd hd' i' => ?_⟩
 have B' : BookAt (U ++ pp dl) σ' b t mo ads ts ps := let B1 := B.grow g; ⟨B1.obj, B1.tr, B1.md, B1.ne, B1.len, B1.lenP, B1.at_, hu, fun k hk => (B1.tree k hk).mono, B1.ord⟩
 refine ⟨U ++ pp dl, b, t, mo, ads, ts, ps, d, k', ep', [n], rfl, B', hd', i', hz, by simp, by simp, fun p hp => ?_, fun σ'' K B2 => ?_⟩
 ·simp at hp; subst hp; exact ⟨h0, h1⟩
 ·exact q d k' σ'' (g.keep K) B2
end Mine
end
noncomputable section
set_option maxHeartbeats 1000000
namespace Mine
open PySem PySem.W PyProof.Rows PySem.Calls
@[simp] theorem wt {ns : List Int} {vs : List V} {σ : ai} {R : List V → (ai → Prop) → ai → Prop} : iT ns (.tup vs) σ R = R vs (fun _ => True) σ := rfl
theorem Anc.step {ps : List (List Int)} {n k p : Int} {l : List Int} (h : Anc ps n k) (hl : ps[k.toNat]? = some l) (hp : p ∈ l) : Anc ps n p := by
 induction h with
 | self n => exact .up hl hp (.self p)
 | up h1 h2 _ ih => exact .up h1 h2 (ih hl)
theorem pT {l : List Int} {i : Nat} {v : V} (h : (l.map V.int)[i]? = some v) : ∃ x, l[i]? = some x ∧ v = .int x := by
 rw [List.getElem?_map] at h
 obtain ⟨x, h1, rfl⟩ := Option.map_eq_some_iff.mp h
 exact ⟨x, h1, rfl⟩
theorem s4 (ns : List Int) {U : List (Str × V)} {σ : ai} {b t mo : Addr} {ads : List Addr} {ts : List (List (Str × V))} {ps : List (List Int)} {Q : V → ai → Prop} {n : Int} {m : bg} (B : BookAt U σ b t mo ads ts ps) (h0 : 0 ≤ n) (h1 : n < ts.length) (hs : m "self" = some (.ref b)) (hm : m "number" = some (.int n))
  (q : ∀ xs, Eld ps n xs → eY (xs.map .int) σ Q) :
  an (hE ns) (an (gZ ns) (an (gY ns) aw)) m σ (fin Q) := by
 have few : ts.length ≤ 200 := B.lenP ▸ B.ord.few
 have ho := B.ord.lt
 rw [ak]
 simp [hE, hm]
 intro f ef hf
 have xf := au σ f (.idict [(n, .bool true)] ef)
 have g0 : Grow σ (aZ σ f (.idict [(n, .bool true)] ef)) := Grow.refl.upd hf
 generalize (aZ σ f (.idict [(n, .bool true)] ef)) = σ₂ at xf g0 ⊢
 rw [ak]
 simp [gZ, hm, h0]
 refine ⟨by omega, ?_⟩
 refine bd (fun i m σ' => ∃ kvs ep, σ' f = some (.idict kvs ep) ∧ Found ps n i kvs ∧ Grow σ σ' ∧ m "self" = some (.ref b) ∧ m "found" = some (.ref f)) (fun _ _ _ => False)
  (fun _ _ _ _ => trivial) _ ?_ ?_ (fun _ _ _ h => h.elim) _ _ ⟨_, _, xf, ⟨?_, ?_, ?_, ?_⟩, g0, by simp [hs], by simp⟩
 ·rintro i v m σ' Q' hv ⟨kvs, ep, hk, F, g, hs, hfd⟩ n1 n2 n3
  obtain ⟨hi, rfl⟩ := s6 hv
  have hk0 : 0 ≤ n - i := by omega
  refine ⟨_, rfl, ?_⟩
  simp [ak, hs, hfd]
  refine og hk ?_
  simp [oh]
  have B' := B.grow g
  have hlt : (n - (i : Int)).toNat < ps.length := by rw [B.lenP]; omega
  split
  ·rename_i hin
   have hin' : (n - (i : Int)) ∈ kvs.map (·.1) := by simpa using hin
   simp [qd B']
   refine B'.itemM hk0 (List.getElem?_eq_getElem hlt) ?_
   have hl : ps[(n - (i : Int)).toNat]? = some ps[(n - (i : Int)).toNat] := List.getElem?_eq_getElem hlt
   generalize ps[(n - (i : Int)).toNat] = l at hl ⊢
   have hlo := ho _ _ hl
   try simp
   refine bd (fun j m σ'' => ∃ kvs' ep', σ'' f = some (.idict kvs' ep') ∧ Grow σ σ'' ∧ m "self" = some (.ref b) ∧ m "found" = some (.ref f) ∧ (∀ x ∈ kvs'.map (·.1), Anc ps n x) ∧ (∀ x ∈ kvs.map (·.1), x ∈ kvs'.map (·.1)) ∧ (∀ p ∈ l.take j, p ∈ kvs'.map (·.1)) ∧ (∀ x ∈ kvs'.map (·.1), x ∈ kvs.map (·.1) ∨ x ∈ l) ∧ (kvs'.map (·.1)).Nodup)
    (fun _ _ _ => False) (fun _ _ _ _ => trivial) _ ?_ ?_ (fun _ _ _ h => h.elim) _ _ ⟨kvs, ep, hk, g, by simp [hs], by simp [hfd], F.anc, fun _ h => h, by simp, fun _ h => .inl h, F.nodup⟩
   ·rintro j v m σ'' Q'' hv ⟨kvs', ep', hk', g', hs', hf', c1, c2, c3, c4, c5⟩ n1' n2' n3'
    obtain ⟨p, hp, rfl⟩ := pT hv
    have hpl := List.mem_of_getElem? hp
    refine ⟨_, rfl, ?_⟩
    simp [ak, hs', hf']
    have hlen : kvs'.length ≤ ts.length := by
     have := eD (n := ts.length) c5 fun x hx => by have := (c1 x hx).le ho h0; omega
     simpa using this
    refine lm hk' (by omega) fun ep'' => ?_
    refine n1' _ _ ⟨_, _, au _ _ _, g'.over hf, by simp [hs'], by simp [hf'], ?_, ?_, ?_, ?_, k9 c5⟩
    ·intro x hx
     rcases (cM _ _ _ x).mp hx with rfl | hx
     ·exact (F.anc _ hin').step hl hpl
     ·exact c1 x hx
    ·intro x hx; exact (cM _ _ _ x).mpr (.inr (c2 x hx))
    ·intro x hx
     rw [List.take_add_one, hp] at hx
     rcases List.mem_append.mp hx with hx | hx
     ·exact (cM _ _ _ x).mpr (.inr (c3 x hx))
     ·simp at hx; subst hx; exact (cM _ _ _ _).mpr (.inl rfl)
    ·intro x hx
     rcases (cM _ _ _ x).mp hx with rfl | hx
     ·exact .inr hpl
     ·exact c4 x hx
   ·rintro m σ'' ⟨kvs', ep', hk', g', hs', hf', c1, c2, c3, c4, c5⟩
    rw [List.length_map, List.take_length] at c3
    try simp
    refine n1 _ _ ⟨kvs', ep', hk', ⟨c1, c2 _ F.self, ?_, c5⟩, g', hs', hf'⟩
    intro x hx hlt' l' hl' p hp
    by_cases hx2 : x = n - i
    ·subst hx2
     rw [hl] at hl'; cases hl'
     exact c3 p hp
    ·rcases c4 x hx with hx3 | hx3
     ·exact c2 p (F.up x hx3 (by omega) l' hl' p hp)
     ·have := hlo x hx3
      omega
  ·rename_i hin
   have hin' : (n - (i : Int)) ∉ kvs.map (·.1) := by simpa using hin
   refine n1 _ _ ⟨kvs, ep, hk, ⟨F.anc, F.self, ?_, F.nodup⟩, g, by simp [hs], by simp [hfd]⟩
   intro x hx hlt' l' hl' p hp
   by_cases hx2 : x = n - i
   ·subst hx2; exact absurd hx hin'
   ·exact F.up x hx (by omega) l' hl' p hp
 ·rintro m σ' ⟨kvs, ep, hk, F, g, hs, hfd⟩
  rw [s5] at F
  rw [aU, ak]
  have hall := F.all ho h0 (by omega)
  have hlen : kvs.length ≤ ts.length := by
   have := eD (n := ts.length) F.nodup fun x hx => by have := (F.anc x hx).le ho h0; omega
   simpa using this
  simp [gY, hfd]
  refine nM hk fun a ha => ?_
  refine q _ ⟨ub F.nodup, fun x => ?_⟩ a _ (g.upd ha) (g.none ha) (au _ _ _)
  rw [(gp _).mem_iff]
  exact hall x
 ·intro x hx; simp at hx; subst hx; exact .self _
 ·simp
 ·intro x hx hlt; simp at hx hlt; omega
 ·simp
theorem sd (ns : List Int) : ∀ vs σ Q, sp_elders ns vs σ Q → vs.length = 2 ∧ iH ns (aF ["self", "number"] vs aN) σ (fin Q) := by
 rintro vs σ Q ⟨U, b, t, mo, ads, ts, ps, n, rfl, B, h0, h1, q⟩
 refine ⟨rfl, ?_⟩
 unfold iH
 rw [ak]
 simp [kX, bA B]
 refine eZ B h0 h1 ?_
 exact s4 ns B h0 h1 (by simp) (by simp) q
theorem iw (x : Int) : ∀ ys : List Int, iy (.int x) (ys.map .int) = some (decide (x ∈ ys))
 | [] => rfl
 | y :: r => by
  have ih := iw x r
  simp only [List.map_cons, iy, ih]
  by_cases h : x = y
  ·subst h; simp [veq0]
  ·simp [veq0, h, Ne.symm h]
theorem qE {σ : ai} {a : Addr} {x : Int} {ys : List Int} {Q : V → ai → Prop} (h : σ a = some (.list (ys.map .int))) (q : Q (.bool (decide (x ∈ ys))) σ) : qu (.int x) (.ref a) σ Q := ⟨_, _, h, iw x ys, q⟩
theorem mM {ns : List Int} {U : List (Str × V)} {σ : ai} {b t mo : Addr} {ads : List Addr} {ts : List (List (Str × V))} {ps : List (List Int)} {Q : V → ai → Prop} (B : BookAt U σ b t mo ads ts ps) {n : Int} (h0 : 0 ≤ n) (h1 : n < ts.length)
  (q : ∀ xs, Eld ps n xs → eY (xs.map .int) σ Q) : sp_elders ns [.ref b, .int n] σ Q := ⟨U, b, t, mo, ads, ts, ps, n, rfl, B, h0, h1, q⟩
theorem Eld.len {ps : List (List Int)} {n : Int} {xs : List Int} (e : Eld ps n xs) (o : Ord ps) (h0 : 0 ≤ n) (h1 : n < ps.length) : xs.length ≤ ps.length :=
 eD (by rw [List.nodup_iff_pairwise_ne]; exact e.lt.imp fun h => Int.ne_of_lt h) fun x hx => let h := ((e.mem x).mp hx).le o.lt h0; ⟨h.1, Int.lt_of_le_of_lt h.2 h1⟩
theorem wZ {ps : List (List Int)} (o : Ord ps) : ∀ (k : Nat), k < ps.length → Anc ps k 0 := by
 intro k
 induction k using Nat.strongRecOn with
 | _ k ih =>
  intro hk
  rcases Nat.eq_zero_or_pos k with rfl | hp
  ·exact .self _
  ·have e : ps[k]? = some ps[k] := List.getElem?_eq_getElem hk
   obtain ⟨p, hm⟩ := List.exists_mem_of_ne_nil _ (o.some k _ e hp)
   have hl := o.lt k _ e p hm
   obtain ⟨j, rfl⟩ := Int.eq_ofNat_of_zero_le hl.1
   have hj : j < k := Int.ofNat_lt.mp hl.2
   exact .up (n := (k : Int)) e hm (ih j hj (Nat.lt_trans hj hk))
theorem rb (ns : List Int) : ∀ vs σ Q, sp_nearest ns vs σ Q → vs.length = 3 ∧ gu ns (aF ["self", "one", "other"] vs aN) σ (fin Q) := by
 rintro vs σ Q ⟨U, b, t, mo, ads, ts, ps, n, k, rfl, B, h0, h1, k0, k1, q⟩
 refine ⟨rfl, ?_⟩
 have few := B.ord.few
 have n1 : n < ps.length := by rw [B.lenP]; exact h1
 have k1' : k < ps.length := by rw [B.lenP]; exact k1
 have z1 : Anc ps n 0 := by obtain ⟨j, rfl⟩ := Int.eq_ofNat_of_zero_le h0; exact wZ B.ord j (Int.ofNat_lt.mp n1)
 have z2 : Anc ps k 0 := by obtain ⟨j, rfl⟩ := Int.eq_ofNat_of_zero_le k0; exact wZ B.ord j (Int.ofNat_lt.mp k1')
 unfold gu
 rw [ak]
 simp [jm, bA B]
 refine mM B h0 h1 fun xs1 E1 a1 σ1 g1 ha1 x1 => ?_
 have e1 := E1.mem
 have B1 := B.grow g1
 rw [ak]
 simp [jl, bA B1]
 refine mM B1 k0 k1 fun xs2 E2 a2 σ2 g2 ha2 x2 => ?_
 have e2 := E2.mem
 have l2 := E2.len B.ord k0 k1'
 simp [bb x2]
 refine bK (fun σ' => σ' = σ2) (fun σ' e => by rw [e]; exact x2) (fun v => match v with | .int x => if x ∈ xs1 then some (.int x) else Option.none | _ => Option.none) _ _ _ _ (by simp; omega) ?_ rfl ?_
 ·rintro v hv σ' Q1 Q2 rfl n1 n2
  obtain ⟨x, hx, rfl⟩ := List.mem_map.mp hv
  refine ⟨_, rfl, ?_⟩
  try simp
  refine qE (g2 _ _ x1) ?_
  try simp
  split
  ·rename_i h; exact n1 _ _ rfl (by simp [h])
  ·rename_i h; exact n2 _ rfl (by simp [h])
 ·rintro σ' rfl
  have hfm : ∀ xs : List Int, (xs.map V.int).filterMap (fun v => match v with | .int x => if x ∈ xs1 then some (V.int x) else Option.none | _ => Option.none) = (xs.filter fun x => decide (x ∈ xs1)).map V.int := by
   intro xs
   induction xs with
   | nil => rfl
   | cons y r ih =>
    simp only [List.map_cons, List.filterMap_cons]
    by_cases h : y ∈ xs1
    ·rw [List.filter_cons_of_pos (by simpa using h)]; simp [h, ih]
    ·rw [List.filter_cons_of_neg (by simpa using h)]; simp [h, ih]
  simp only [List.nil_append]
  rw [hfm]
  intro a3 ha3
  refine sG (au _ _ _) ?_ fun M hM hmax => ?_
  ·have : (0 : Int) ∈ xs2.filter fun x => decide (x ∈ xs1) := List.mem_filter.mpr ⟨(e2 0).mpr z2, by simpa using (e1 0).mpr z1⟩
   exact List.length_pos_of_mem this
  ·obtain ⟨m1, m2⟩ := List.mem_filter.mp hM
   have m2' : M ∈ xs1 := by simpa using m2
   refine q M _ ((g1.trans g2).upd ha3) ((e1 M).mp m2') ((e2 M).mp m1) fun y y1 y2 => ?_
   exact hmax y (List.mem_filter.mpr ⟨(e2 y).mpr y2, by simpa using (e1 y).mpr y1⟩)
end Mine
end
noncomputable section
set_option maxHeartbeats 1000000
namespace Mine
open PySem PySem.W PyProof.Rows PySem.Calls
noncomputable def tA : Option Str → V
 | Option.none => .none
 | some y => .str y
noncomputable def v9 (U : List (Str × V)) (x : Str) (o : Option Str) : Prop := ∀ y, o = some y → (x, V.str y) ∈ U
theorem qj : ∀ {U : List (Str × V)} {x : Str} {v w : V}, (keysOf U).Nodup → (x, v) ∈ U → (x, w) ∈ U → v = w
 | q :: r, x, v, w, h, h1, h2 => by
  have hn := List.nodup_cons.mp h
  rcases List.mem_cons.mp h1 with e1 | g1
  ·rcases List.mem_cons.mp h2 with e2 | g2
   ·rw [← e1] at e2; cases e2; rfl
   ·subst e1; exact absurd (List.mem_map.mpr ⟨_, g2, rfl⟩) hn.1
  ·rcases List.mem_cons.mp h2 with e2 | g2
   ·subst e2; exact absurd (List.mem_map.mpr ⟨_, g1, rfl⟩) hn.1
   ·exact qj hn.2 g1 g2
theorem yu {U : List (Str × V)} (h : Un U) {x : Str} {a b c : Option Str} (ha : v9 U x a) (hb : v9 U x b) (hc : v9 U x c) (h1 : ¬ a = b) (h2 : ¬ b = c) : a = c := by
 have e : ∀ {o p : Option Str}, v9 U x o → v9 U x p → o ≠ Option.none → p ≠ Option.none → o = p := by
  intro o p ho hp no np
  cases o with
  | none => exact absurd rfl no
  | some y => cases p with
   | none => exact absurd rfl np
   | some z =>
    have := qj h.nodup (ho y rfl) (hp z rfl)
    cases this; rfl
 by_cases n1 : a = Option.none
 ·by_cases n3 : c = Option.none
  ·rw [n1, n3]
  ·by_cases n2 : b = Option.none
   ·exact absurd (n1.trans n2.symm) h1
   ·exact absurd (e hb hc n2 n3) h2
 ·by_cases n2 : b = Option.none
  ·by_cases n3 : c = Option.none
   ·exact absurd (n2.trans n3.symm) h2
   ·exact e ha hc n1 n3
  ·exact absurd (e ha hb n1 n2) h1
section
variable {σ : ai} {Q : V → ai → Prop} {U : List (Str × V)}
@[simp] theorem vK {a b : Option Str} : bR (tA a) (tA b) σ Q = Q (.bool (decide (a = b))) σ := by
 cases a <;> cases b <;> simp [tA]
@[simp] theorem yB {a b : Option Str} : dv (tA a) (tA b) σ Q = Q (.bool (!decide (a = b))) σ := by
 cases a <;> cases b <;> simp [tA]
theorem gU {a : Addr} {kvs : List (Str × V)} {ep : Nat} {x : Str} (hu : Un U) (h : σ a = some (.dict kvs ep)) (t : Inn U kvs) (q : ∀ o, v9 U x o → Q (tA o) σ) : cy (.ref a) σ ∧ fK [.ref a, .str x] σ Q := by
 refine ⟨by rw [pv h]; trivial, sV h ?_⟩
 by_cases hx : x ∈ kvs.map (·.1)
 ·obtain ⟨v, h1, h2⟩ := rV hx
  obtain ⟨y, hy⟩ := hu.val _ (t.sub _ h2)
  have hy : v = .str y := hy
  subst hy
  rw [h1]
  exact q (some y) fun z e => by cases e; exact t.sub _ h2
 ·have := i8 kvs x
  rw [decide_eq_false hx, Option.isSome_eq_false_iff, Option.isNone_iff_eq_none] at this
  rw [this]
  exact q Option.none fun z e => by cases e
end
theorem rh {m₀ : bg} {σ₀ : ai} {U : List (Str × V)} {a t : Addr} {fk kvs : List (Str × V)} {ef ep : Nat} {Q : Fl → bg → ai → Prop} (hU : U.length ≤ 200) (ha : σ₀ a = some (.dict fk ef)) (ht : σ₀ t = some (.dict kvs ep)) (hat : a ≠ t) (hm : m₀ "found" = some (.ref a)) (hn : (keysOf fk).Nodup) (hk : ∀ x ∈ keysOf fk, x ∈ keysOf U) (tk : Inn U kvs)
  (h : ∀ m σ' fk' ef', σ' a = some (.dict fk' ef') → (keysOf fk').Nodup → (∀ x ∈ keysOf fk', x ∈ keysOf U) → (∀ c, c ≠ a → σ' c = σ₀ c) → (∀ y, y ≠ "path" → m y = m₀ y) → Q .next m σ') :
  kj (.name "path") (fun σ => σ t = some (.dict kvs ep)) (an (bI kZ (aE (.bool true)) (ae "found") (ae "path")) aw) (kvs.map fun q => .str q.1) m₀ σ₀ Q := by
 refine bd (fun i m σ' => ∃ fk' ef', σ' a = some (.dict fk' ef') ∧ (keysOf fk').Nodup ∧ (∀ x ∈ keysOf fk', x ∈ keysOf U) ∧ (∀ c, c ≠ a → σ' c = σ₀ c) ∧ (∀ y, y ≠ "path" → m y = m₀ y)) (fun _ _ _ => False)
  (fun i m σ' ⟨fk', ef', _, _, _, h5, _⟩ => by rw [h5 t hat.symm]; exact ht) _ ?_ ?_ (fun _ _ _ h => h.elim) _ _ ⟨fk, ef, ha, hn, hk, fun _ _ => rfl, fun _ _ => rfl⟩
 ·rintro i v m σ' Q' hv ⟨fk', ef', h1, h2, h3, h5, h6⟩ n1 n2 n3
  obtain ⟨y, hy, rfl⟩ := mx hv
  have hl : fk'.length ≤ 200 := by
   have := eB h2 h3
   unfold keysOf at this
   rw [List.length_map, List.length_map] at this
   exact Nat.le_trans this hU
  refine ⟨_, rfl, ?_⟩
  simp [ak, h6 _ (show "found" ≠ "path" by decide), hm]
  refine jU h1 (Nat.lt_of_le_of_lt hl (by decide)) fun ep2 => ?_
  refine n1 _ _ ⟨_, ep2, au _ _ _, gD h2, fun z hz => ?_, fun c hc => by rw [aC hc]; exact h5 c hc, fun y hy => by simp [hy]; exact h6 y hy⟩
  rcases (lT _ _ _ z).mp hz with rfl | hz
  ·exact tk.key (List.mem_of_getElem? hy)
  ·exact h3 z hz
 ·rintro m σ' ⟨fk', ef', h1, h2, h3, h5, h6⟩
  exact h m σ' fk' ef' h1 h2 h3 h5 h6
theorem wW (ns : List Int) : ∀ vs σ Q, sp_all_paths ns vs σ Q → vs.length = 3 ∧ d7 ns (aF ["elder", "one", "other"] vs aN) σ (fin Q) := by
 rintro vs σ Q ⟨U, a, b, c, ka, kb, kc, e1, e2, e3, rfl, ⟨xa, xb, xc, ta, tb, tc, hu⟩, q⟩
 refine ⟨rfl, ?_⟩
 unfold d7
 rw [ak]
 simp [gI]
 intro f ef hf
 have fa : a ≠ f := by rintro rfl; rw [xa] at hf; cases hf
 have fb : b ≠ f := by rintro rfl; rw [xb] at hf; cases hf
 have fc : c ≠ f := by rintro rfl; rw [xc] at hf; cases hf
 show an _ _ _ _ _
 rw [ak]
 simp [gH]
 intro l hl
 have fl : l ≠ f := by rintro rfl; simp [Mine.aZ] at hl
 rw [bb (au _ _ _)]
 have al : a ≠ l := by rintro rfl; simp [Mine.aZ, fa, xa] at hl
 have bl : b ≠ l := by rintro rfl; simp [Mine.aZ, fb, xb] at hl
 have cl' : c ≠ l := by rintro rfl; simp [Mine.aZ, fc, xc] at hl
 have hln : σ l = Option.none := by rw [aC fl] at hl; exact hl
 generalize hσ : aZ (aZ σ f (.dict [] ef)) l (.list [.ref a, .ref b, .ref c]) = σ₁
 have s1 : ∀ d, d ≠ f → d ≠ l → σ₁ d = σ d := fun d h1 h2 => by rw [← hσ, aC h2, aC h1]
 have s2 : σ₁ f = some (.dict [] ef) := by rw [← hσ, aC fl.symm, au]
 have s3 : σ₁ l = some (.list [.ref a, .ref b, .ref c]) := by rw [← hσ, au]
 refine bd (fun i m σ' => ∃ fk ef, σ' f = some (.dict fk ef) ∧ (keysOf fk).Nodup ∧ (∀ x ∈ keysOf fk, x ∈ keysOf U) ∧ (∀ c, c ≠ f → σ' c = σ₁ c) ∧ m "found" = some (.ref f)) (fun _ _ _ => False)
  (fun i m σ' ⟨fk', ef', _, _, _, h5, _⟩ => by rw [h5 l fl]; exact s3) _ ?_ ?_ (fun _ _ _ h => h.elim) _ _ ⟨[], ef, s2, List.nodup_nil, (fun _ h => (nomatch h)), fun _ _ => rfl, by simp⟩
 ·rintro i v m σ' Q' hv ⟨fk, ef', h1, h2, h3, h5, h6⟩ n1 n2 n3
  refine ⟨_, rfl, ?_⟩
  have go : ∀ d kvs ep, d ≠ f → d ≠ l → σ d = some (.dict kvs ep) → Inn U kvs → v = .ref d → (an (ch (.name "path") (fR ns (ae "tree")) (an (bI kZ (aE (.bool true)) (ae "found") (ae "path")) aw)) aw) (put m "tree" v) σ' Q' := by
   rintro d kvs ep hdf hdl hd ht rfl
   have hd' : σ' d = some (.dict kvs ep) := by rw [h5 d hdf, s1 d hdf hdl]; exact hd
   simp [ak, dF hd']
   refine rh hu.len h1 hd' hdf.symm (by simp [h6]) h2 h3 ht fun m₂ σ₂ fk2 ef2 g1 g2 g3 g5 g6 => ?_
   try simp
   exact n1 _ _ ⟨fk2, ef2, g1, g2, g3, fun c hc => by rw [g5 c hc]; exact h5 c hc, by rw [g6 _ (by decide)]; simp [h6]⟩
  match i, hv with
  | 0, hv => simp at hv; exact go a ka e1 fa al xa ta hv.symm
  | 1, hv => simp at hv; exact go b kb e2 fb bl xb tb hv.symm
  | 2, hv => simp at hv; exact go c kc e3 fc cl' xc tc hv.symm
  | n + 3, hv => simp at hv
 ·rintro m σ' ⟨fk, ef', h1, h2, h3, h5, h6⟩
  rw [aU, ak]
  simp [gG, h6, h1]
  intro r hr
  have hrf : r ≠ f := by rintro rfl; rw [h1] at hr; cases hr
  have hrn : σ r = Option.none := by
   by_cases hrl : r = l
   ·rw [hrl]; exact hln
   ·rw [← s1 r hrf hrl, ← h5 r hrf]; exact hr
  have hfn : ∀ d o, σ d = some o → d ≠ f := fun d o e => by rintro rfl; rw [hf] at e; cases e
  have hl : fk.length ≤ 200 := by
   have := eB h2 h3
   unfold keysOf at this
   rw [List.length_map, List.length_map] at this
   exact Nat.le_trans this hu.len
  refine q (srt (keysOf fk)) (fun x hx => h3 x (tL.mp hx)) (by unfold keysOf; rw [lZ, List.length_map]; exact Nat.le_trans hl (by decide)) r _ (fun d o hd => ?_) hrn (au _ _ _)
  have d1 := hfn d o hd
  have d2 : d ≠ l := by rintro rfl; rw [hln] at hd; cases hd
  have d3 : d ≠ r := by rintro rfl; rw [hrn] at hd; cases hd
  rw [aC d3, h5 d d1, s1 d d1 d2]; exact hd
end Mine
end
noncomputable section
set_option maxHeartbeats 1000000
namespace Mine
open PySem PySem.W PyProof.Rows PySem.Calls
theorem qi {ks : List Str} {i : Nat} {v : V} (h : (ks.map V.str)[i]? = some v) : ∃ y, ks[i]? = some y ∧ v = .str y := by
 rw [List.getElem?_map] at h
 obtain ⟨q, hq, rfl⟩ := Option.map_eq_some_iff.mp h
 exact ⟨q, hq, rfl⟩
section
variable {ns : List Int} {U : List (Str × V)} {σ σ' : ai} {Q : V → ai → Prop} {a b c : Addr} {ka kb kc : List (Str × V)} {e1 e2 e3 : Nat}
theorem D3.grow (d : D3 U a b c ka kb kc e1 e2 e3 σ) (g : Grow σ σ') : D3 U a b c ka kb kc e1 e2 e3 σ' := ⟨g _ _ d.xa, g _ _ d.xb, g _ _ d.xc, d.ta, d.tb, d.tc, d.un⟩
theorem r6 (d : D3 U a b c ka kb kc e1 e2 e3 σ) (q : ∀ xs : List Str, (∀ x ∈ xs, x ∈ keysOf U) → xs.length ≤ 600 → eY (xs.map .str) σ Q) : sp_all_paths ns [.ref a, .ref b, .ref c] σ Q := ⟨U, a, b, c, ka, kb, kc, e1, e2, e3, rfl, d, q⟩
theorem wQ (d : D3 U a b c ka kb kc e1 e2 e3 σ) (q : ∀ ws : List (Str × Str), (∀ q ∈ ws, q.2 ≠ Str.ofString "clash") → ws.length ≤ 600 → eY (ws.map fun q => .tup [.str q.1, .str q.2]) σ Q) : sp_marks ns [.ref a, .ref b, .ref c] σ Q := ⟨U, a, b, c, ka, kb, kc, e1, e2, e3, rfl, d, q⟩
theorem r5 (d : D3 U a b c ka kb kc e1 e2 e3 σ) (q : eY [] σ Q) : sp_clashing ns [.ref a, .ref b, .ref c] σ Q := ⟨U, a, b, c, ka, kb, kc, e1, e2, e3, rfl, d, q⟩
theorem uF (d : D3 U a b c ka kb kc e1 e2 e3 σ) (q : ∀ f kvs ep σ', Grow σ σ' → σ f = Option.none → σ' f = some (.dict kvs ep) → Inn U kvs → Q (.ref f) σ') : sp_standing ns [.ref a, .ref b, .ref c] σ Q := ⟨U, a, b, c, ka, kb, kc, e1, e2, e3, rfl, d, q⟩
theorem wR (d : D3 U a b c ka kb kc e1 e2 e3 σ) (q : eY [] σ Q) : sp_clashes ns [.ref a, .ref b, .ref c] σ Q := ⟨U, a, b, c, ka, kb, kc, e1, e2, e3, rfl, d, q⟩
end
theorem tQ (ns : List Int) : ∀ vs σ Q, sp_marks ns vs σ Q → vs.length = 3 ∧ jN ns (aF ["elder", "one", "other"] vs aN) σ (fin Q) := by
 rintro vs σ Q ⟨U, a, b, c, ka, kb, kc, e1, e2, e3, rfl, d, q⟩
 refine ⟨rfl, ?_⟩
 unfold jN
 rw [ak]
 simp [lO]
 intro t ht
 rw [ak]
 have g0 : Grow σ (aZ σ t (.list [])) := Grow.refl.upd ht
 have xt := au σ t (.list [])
 generalize (aZ σ t (.list [])) = σ₁ at g0 xt ⊢
 simp [lM]
 refine r6 (d.grow g0) fun ks hks hkl l σ₂ g2 hl xl => ?_
 rw [bb xl]
 have lt : l ≠ t := by rintro rfl; rw [xt] at hl; cases hl
 have xt2 := g2 _ _ xt
 have g02 := g0.trans g2
 have d2 := d.grow g02
 have ne : ∀ {z : Addr} {o : AObj}, σ z = some o → z ≠ t := fun {z o} h => by rintro rfl; rw [ht] at h; cases h
 refine bd (fun i m σ' => ∃ ws : List (Str × Str), (∀ d, d ≠ t → σ' d = σ₂ d) ∧ σ' t = some (.list (ws.map fun q => V.tup [.str q.1, .str q.2])) ∧ (∀ q ∈ ws, q.2 ≠ Str.ofString "clash") ∧ ws.length ≤ i ∧ m "told" = some (.ref t) ∧ m "elder" = some (.ref a) ∧ m "one" = some (.ref b) ∧ m "other" = some (.ref c)) (fun _ _ _ => False)
  (fun i m σ' ⟨_, h, _⟩ => by rw [h l lt]; exact xl) _ ?_ ?_ (fun _ _ _ h => h.elim) _ _ ⟨[], fun _ _ => rfl, xt2, (fun _ h => (nomatch h)), Nat.le_refl _, by simp, by simp, by simp, by simp⟩
 ·rintro i v m σ' Q' hv ⟨ws, h1, h2, hw, hwl, h3, h4, h5, h6⟩ n1 n2 n3
  have hi : i < ks.length := by have := (List.getElem?_eq_some_iff.mp hv).1; rwa [List.length_map] at this
  obtain ⟨y, hy, rfl⟩ := qi hv
  refine ⟨_, rfl, ?_⟩
  have ya : σ' a = some (.dict ka e1) := by rw [h1 a (ne d.xa)]; exact d2.xa
  have yb : σ' b = some (.dict kb e2) := by rw [h1 b (ne d.xb)]; exact d2.xb
  have yc : σ' c = some (.dict kc e3) := by rw [h1 c (ne d.xc)]; exact d2.xc
  have skip : ∀ (m' : bg), m' "told" = some (.ref t) → m' "elder" = some (.ref a) → m' "one" = some (.ref b) → m' "other" = some (.ref c) → Q' .next m' σ' := fun m' z1 z2 z3 z4 => n1 _ _ ⟨ws, h1, h2, hw, Nat.le_succ_of_le hwl, z1, z2, z3, z4⟩
  have put1 : ∀ (m' : bg) (u : Str), u ≠ Str.ofString "clash" → m' "told" = some (.ref t) → m' "elder" = some (.ref a) → m' "one" = some (.ref b) → m' "other" = some (.ref c) → bq [.ref t, .tup [.str y, .str u]] σ' fun x σ'' => Q' .next m' σ'' := by
   intro m' u hu z1 z2 z3 z4
   refine cF h2 (by rw [List.length_map]; exact Nat.lt_of_le_of_lt (Nat.le_trans hwl (Nat.le_trans (Nat.le_of_lt hi) hkl)) (by decide)) (n1 _ _ ⟨ws ++ [(y, u)], fun d hd => by rw [aC hd]; exact h1 d hd, ?_, fun q hq => ?_, by rw [List.length_append]; exact Nat.succ_le_succ hwl, z1, z2, z3, z4⟩)
   ·rw [au, List.map_append]; rfl
   ·rcases List.mem_append.mp hq with hq | hq
    ·exact hw q hq
    ·rw [List.mem_singleton.mp hq]; exact hu
  simp only [ak, qs, ox, ow, n6, qC]
  simp [h4]
  refine gU d.un ya d.ta fun w vw => ?_
  simp [ak, h5]
  refine gU d.un yb d.tb fun mi vm => ?_
  simp [ak, h6]
  refine gU d.un yc d.tc fun th vt => ?_
  simp [ak, h3, bZ h2]
  split
  ·split
   ·exact skip _ (by simp [h3]) (by simp [h4]) (by simp [h5]) (by simp [h6])
   ·exact put1 _ _ (by decide) (by simp [h3]) (by simp [h4]) (by simp [h5]) (by simp [h6])
  ·rename_i k1
   split
   ·exact put1 _ _ (by decide) (by simp [h3]) (by simp [h4]) (by simp [h5]) (by simp [h6])
   ·rename_i k2
    split
    ·exact put1 _ _ (by decide) (by simp [h3]) (by simp [h4]) (by simp [h5]) (by simp [h6])
    ·rename_i k3
     exact absurd (yu d.un vm vt vw k1 k2) k3
 ·rintro m σ' ⟨ws, h1, h2, hw, hwl, h3, h4, h5, h6⟩
  rw [aU, ak]
  simp [lL, h3]
  have hg : Grow σ σ' := fun d o e => by rw [h1 d (ne e)]; exact g02 d o e
  exact q ws hw (Nat.le_trans hwl (by rw [List.length_map]; exact hkl)) t σ' hg ht h2
theorem pI (ns : List Int) : ∀ vs σ Q, sp_clashing ns vs σ Q → vs.length = 3 ∧ fp ns (aF ["elder", "one", "other"] vs aN) σ (fin Q) := by
 rintro vs σ Q ⟨U, a, b, c, ka, kb, kc, e1, e2, e3, rfl, d, q⟩
 refine ⟨rfl, ?_⟩
 simp [fp, iI, ak]
 refine wQ d fun ws hw hwl l σ₁ g1 hl xl => ?_
 rw [bb xl]
 refine bK (fun s => s = σ₁) (fun s hs => by rw [hs]; exact xl) (fun _ => Option.none) _ _ _ _ (by simp; exact Nat.le_trans hwl (by decide)) ?_ rfl ?_
 ·rintro v hv s Q₁ Q₂ rfl n1 n2
  obtain ⟨x, hx, rfl⟩ := List.mem_map.mp hv
  refine ⟨_, rfl, ?_⟩
  simp [hw x hx]
  exact n2 _ rfl rfl
 ·rintro s rfl r hr
  have e : (ws.map fun q => V.tup [.str q.1, .str q.2]).filterMap (fun _ => (Option.none : Option V)) = [] := by simp
  rw [List.nil_append, e]
  exact q r _ (g1.upd hr) (g1.none hr) (au _ _ _)
theorem pG (ns : List Int) : ∀ vs σ Q, sp_standing ns vs σ Q → vs.length = 3 ∧ fi ns (aF ["elder", "one", "other"] vs aN) σ (fin Q) := by
 rintro vs σ Q ⟨U, a, b, c, ka, kb, kc, e1, e2, e3, rfl, d, q⟩
 refine ⟨rfl, ?_⟩
 unfold fi
 rw [ak]
 simp [iC]
 refine r5 d fun w σ₁ g1 hw xw => ?_
 rw [ak]
 simp [iB]
 intro f ef hf
 have hfn := g1.none hf
 have g2 : Grow σ₁ (aZ σ₁ f (.dict [] ef)) := Grow.refl.upd hf
 have xf := au σ₁ f (.dict [] ef)
 generalize (aZ σ₁ f (.dict [] ef)) = σ₂ at g2 xf ⊢
 show an _ _ _ _ _
 rw [ak]
 simp [iA]
 have d2 := (d.grow g1).grow g2
 refine r6 d2 fun ks hks hkl l σ₃ g3 hl xl => ?_
 rw [bb xl]
 have xf3 := g3 _ _ xf
 have hlf : l ≠ f := by rintro rfl; rw [xf] at hl; cases hl
 have hwf : w ≠ f := by rintro rfl; rw [xw] at hf; cases hf
 have xw3 := g3 _ _ (g2 _ _ xw)
 have d3 := d2.grow g3
 have ne : ∀ {z : Addr} {o : AObj}, σ z = some o → z ≠ f := fun {z o} h => by rintro rfl; rw [hfn] at h; cases h
 refine bd (fun i m σ' => (∀ z, z ≠ f → σ' z = σ₃ z) ∧ (∃ kvs ep, σ' f = some (.dict kvs ep) ∧ Inn U kvs) ∧ m "away" = some (.ref w) ∧ m "found" = some (.ref f) ∧ m "elder" = some (.ref a) ∧ m "one" = some (.ref b) ∧ m "other" = some (.ref c)) (fun _ _ _ => False)
  (fun i m σ' h => by rw [h.1 l hlf]; exact xl) _ ?_ ?_ (fun _ _ _ h => h.elim) _ _ ⟨fun _ _ => rfl, ⟨[], ef, xf3, Inn.nil⟩, by simp, by simp, by simp, by simp, by simp⟩
 ·rintro i v m σ' Q' hv ⟨h1, ⟨kvs, ep, h2, hin⟩, mw, mf, me, mo, mt⟩ n1 n2 n3
  obtain ⟨y, hy, rfl⟩ := qi hv
  refine ⟨_, rfl, ?_⟩
  have ya : σ' a = some (.dict ka e1) := by rw [h1 a (ne d.xa)]; exact d3.xa
  have yb : σ' b = some (.dict kb e2) := by rw [h1 b (ne d.xb)]; exact d3.xb
  have yc : σ' c = some (.dict kc e3) := by rw [h1 c (ne d.xc)]; exact d3.xc
  have yw : σ' w = some (.list []) := by rw [h1 w hwf]; exact xw3
  have last : ∀ (m' : bg) (o : Option Str), v9 U y o → m' "text" = some (tA o) → m' "path" = some (.str y) → m' "away" = some (.ref w) → m' "found" = some (.ref f) → m' "elder" = some (.ref a) → m' "one" = some (.ref b) → m' "other" = some (.ref c) →
    (an (dz (ie (aH (aB dL (ae "path") (ae "away"))) (ie (aH (aB gj (ae "text") (aE .none))) tT)) (an (bI kZ (ae "text") (ae "found") (ae "path")) aw) aw) aw) m' σ' Q' := by
   intro m' o ho z1 z2 z3 z4 z5 z6 z7
   rw [ak]
   simp [z1, z2, z3, z4]
   refine ⟨[], false, yw, rfl, ?_⟩
   cases o with
   | none =>
    simp [tA]
    exact n1 _ _ ⟨h1, ⟨kvs, ep, h2, hin⟩, z3, z4, z5, z6, z7⟩
   | some t =>
    simp [tA, ak, z1, z2, z4]
    refine jU h2 (Nat.lt_of_le_of_lt (hin.len d.un.len) (by decide)) fun ep2 => ?_
    exact n1 _ _ ⟨fun z hz => by rw [aC hz]; exact h1 z hz, ⟨_, ep2, au _ _ _, hin.put (ho t rfl)⟩, z3, z4, z5, z6, z7⟩
  rw [ak]
  simp only [qs, ox, ow, n6, qC]
  simp [mo]
  refine gU d.un yb d.tb fun o1 v1 => ?_
  rw [ak]
  simp [mo, me]
  refine gU d.un yb d.tb fun o2 v2 => ?_
  try simp
  refine gU d.un ya d.ta fun o3 v3 => ?_
  by_cases hq : o2 = o3
  ·rw [vK, decide_eq_true hq]
   simp only [n8, if_true]
   rw [ak]
   simp [mt]
   refine gU d.un yc d.tc fun o4 v4 => ?_
   exact last _ o4 v4 (by simp) (by simp) (by simp [mw]) (by simp [mf]) (by simp [me]) (by simp [mo]) (by simp [mt])
  ·simp [hq]
   exact last _ o1 v1 (by simp) (by simp) (by simp [mw]) (by simp [mf]) (by simp [me]) (by simp [mo]) (by simp [mt])
 ·rintro m σ' ⟨h1, ⟨kvs, ep, h2, hin⟩, mw, mf, me, mo, mt⟩
  rw [aU, ak]
  simp [iz, mf]
  exact q f kvs ep σ' (fun z o e => by rw [h1 z (ne e)]; exact g3 _ _ (g2 _ _ (g1 _ _ e))) hfn h2 hin
end Mine
end
noncomputable section
set_option maxHeartbeats 1000000
namespace Mine
open PySem PySem.W PyProof.Rows PySem.Calls
theorem tU (ns : List Int) : ∀ vs σ Q, sp_above ns vs σ Q → vs.length = 1 ∧ jO ns (aF ["path"] vs aN) σ (fin Q) := by
 rintro vs σ Q ⟨x, rfl, hf, hx, q⟩
 refine ⟨rfl, ?_⟩
 simp [jO, lQ, lP, ak, l7, lk hf]
 refine ⟨Nat.le_trans hx (by decide), fun a ha => ?_⟩
 simp [aV (au σ a _)]
 refine ⟨trivial, fun b hb => ?_⟩
 have g := Grow.refl.upd (o := .list [.str x]) ha
 exact q b _ (g.upd hb) (g.none hb) (au _ _ _)
theorem r7 {ns : List Int} {σ : ai} {Q : V → ai → Prop} {x : Str} (hf : 47 ∉ cl x) (hx : x.length ≤ 12) (q : eY [] σ Q) : sp_above ns [.str x] σ Q := ⟨x, rfl, hf, Nat.le_trans hx (by decide), q⟩
theorem rd (ns : List Int) : ∀ vs σ Q, sp_clashes ns vs σ Q → vs.length = 3 ∧ gy ns (aF ["elder", "one", "other"] vs aN) σ (fin Q) := by
 rintro vs σ Q ⟨U, a, b, c, ka, kb, kc, e1, e2, e3, rfl, d, q⟩
 refine ⟨rfl, ?_⟩
 unfold gy
 rw [ak]
 simp [jw]
 refine r5 d fun l σ₁ g1 hl xl => ?_
 rw [bb xl]
 refine ⟨xl, fun t ht => ?_⟩
 have htn := g1.none ht
 have g2 := g1.upd (o := .list []) ht
 have xt := au σ₁ t (.list [])
 generalize (aZ σ₁ t (.list [])) = σ₂ at g2 xt ⊢
 show an _ _ _ _ _
 rw [ak]
 simp [jv]
 refine uF (d.grow g2) fun f kf ef σ₃ g3 hf xf hin => ?_
 have xt3 := g3 _ _ xt
 rw [ak]
 simp [ju, dF xf]
 refine bd (fun i m σ' => Grow σ₃ σ' ∧ m "told" = some (.ref t) ∧ m "files" = some (.ref f)) (fun _ _ _ => False) (fun j m σ' h => h.1 _ _ xf) _ ?_ ?_ (fun _ _ _ h => h.elim) _ _ ⟨Grow.refl, by simp, by simp⟩
 ·rintro i v m σ' Q' hv ⟨h1, mt, mf⟩ n1 n2 n3
  obtain ⟨y, hy, rfl⟩ := mx hv
  refine ⟨_, rfl, ?_⟩
  have hyk := d.un.at (hin.key (List.mem_of_getElem? hy))
  rw [ak]
  simp
  refine r7 hyk.1 hyk.2 fun r σ₄ g4 hr xr => ?_
  rw [bb xr]
  refine ⟨xr, ?_⟩
  rw [aU]
  simp
  exact n1 _ _ ⟨h1.trans g4, by simp [mt], by simp [mf]⟩
 ·rintro m σ' ⟨h1, mt, mf⟩
  rw [aU, ak]
  simp [jt, mt]
  refine nL (ks := []) (h1 _ _ xt3) ?_
  rw [show srt ([] : List Str) = [] from List.length_eq_zero_iff.mp (lZ [])]
  intro r hr
  have g := (g2.trans g3).trans h1
  exact q r _ (g.upd hr) (g.none hr) (au _ _ _)
theorem r9 (ns : List Int) : ∀ vs σ Q, sp_joined ns vs σ Q → vs.length = 4 ∧ iG ns (aF ["elder", "one", "other", "picks"] vs aN) σ (fin Q) := by
 rintro vs σ Q ⟨U, a, b, c, ka, kb, kc, e1, e2, e3, p, ep, rfl, d, xp, q⟩
 refine ⟨rfl, ?_⟩
 unfold iG
 rw [ak]
 simp [kW]
 intro kn en hkn
 have g1 : Grow σ (aZ σ kn (.dict [] en)) := Grow.refl.upd hkn
 have xk := au σ kn (.dict [] en)
 generalize (aZ σ kn (.dict [] en)) = σ₁ at g1 xk ⊢
 show an _ _ _ _ _
 rw [ak]
 simp [kU]
 refine wR (d.grow g1) fun l σ₂ g2 hl xl => ?_
 rw [bb xl]
 refine ⟨xl, ?_⟩
 have g12 := g1.trans g2
 have xp2 := g12 _ _ xp
 rw [aU, ak]
 simp [kT, dF xp2]
 refine ⟨xp2, ?_⟩
 rw [aU, ak]
 simp [kS]
 refine r5 (d.grow g12) fun l3 σ₃ g3 hl3 xl3 => ?_
 rw [bb xl3]
 refine ⟨xl3, ?_⟩
 have g13 := g12.trans g3
 rw [aU, ak]
 simp [kR]
 refine uF (d.grow g13) fun f kf ef σ₄ g4 hf xf hin => ?_
 have g14 := g13.trans g4
 have xp4 := g14 _ _ xp
 rw [ak]
 simp [kQ, dF xp4]
 refine ⟨xp4, ?_⟩
 rw [aU, ak]
 simp [kP, dF xf]
 refine bd (fun i m σ' => Grow σ₄ σ' ∧ m "files" = some (.ref f)) (fun _ _ _ => False) (fun j m σ' h => h.1 _ _ xf) _ ?_ ?_ (fun _ _ _ h => h.elim) _ _ ⟨Grow.refl, by simp⟩
 ·rintro i v m σ' Q' hv ⟨h1, mf⟩ n1 n2 n3
  obtain ⟨y, hy, rfl⟩ := mx hv
  refine ⟨_, rfl, ?_⟩
  have hyk := d.un.at (hin.key (List.mem_of_getElem? hy))
  rw [ak]
  simp
  refine r7 hyk.1 hyk.2 fun r σ₅ g5 hr xr => ?_
  rw [bb xr]
  refine ⟨xr, ?_⟩
  rw [aU]
  simp
  exact n1 _ _ ⟨h1.trans g5, by simp [mf]⟩
 ·rintro m σ' ⟨h1, mf⟩
  rw [aU, ak]
  simp [kO, mf]
  exact q f kf ef σ' (g14.trans h1) (g13.none hf) (h1 _ _ xf) hin
theorem tP (ns : List Int) : ∀ vs σ Q, sp_merge ns vs σ Q → vs.length = 4 ∧ jM ns (aF ["self", "one", "other", "picks"] vs aN) σ (fin Q) := by
 rintro vs σ Q ⟨U, b, t, mo, ads, ts, ps, n, k, p, ep, rfl, B, h0, h1, k0, k1, hne, xp, hz, q⟩
 refine ⟨rfl, ?_⟩
 unfold jM
 rw [ak]
 simp [lK, bA B]
 refine eZ B h0 h1 ?_
 rw [ak]
 simp [lJ, bA B]
 refine eZ B k0 k1 ?_
 rw [ak]
 simp [lI, hne]
 rw [ak]
 simp [lH, bA B]
 refine ⟨U, b, t, mo, ads, ts, ps, n, k, rfl, B, h0, h1, k0, k1, fun M σ₁ g1 a1 a2 a3 => ?_⟩
 have B1 := B.grow g1
 have hM := a1.le B.ord.lt h0
 obtain ⟨ke, he⟩ : ∃ kvs, ts[M.toNat]? = some kvs := ⟨_, List.getElem?_eq_getElem (ei hM.1 (Int.lt_of_le_of_lt hM.2 h1))⟩
 obtain ⟨kn, hn⟩ : ∃ kvs, ts[n.toNat]? = some kvs := ⟨_, List.getElem?_eq_getElem (ei h0 h1)⟩
 obtain ⟨kk, hk⟩ : ∃ kvs, ts[k.toNat]? = some kvs := ⟨_, List.getElem?_eq_getElem (ei k0 k1)⟩
 rw [ak]
 simp [lG, fX B1]
 refine B1.itemT hM.1 he fun d1 e1 x1 => ?_
 try simp [fX B1]
 refine B1.itemT h0 hn fun d2 e2 x2 => ?_
 try simp [fX B1]
 refine B1.itemT k0 hk fun d3 e3 x3 => ?_
 try simp
 refine ⟨U, d1, d2, d3, ke, kn, kk, e1, e2, e3, p, ep, rfl, ⟨x1, x2, x3, B.tree _ (List.mem_of_getElem? he), B.tree _ (List.mem_of_getElem? hn), B.tree _ (List.mem_of_getElem? hk), B.un⟩, g1 _ _ xp, fun f kf ef σ₂ g2 hf xf hin => ?_⟩
 have B2 := B1.grow g2
 rw [ak]
 simp [lF, bA B2]
 refine ⟨U, b, t, mo, ads, ts, ps, f, kf, ef, [min n k, max n k], rfl, B2, xf, hin, hz, by simp, by simp, fun x hx => ?_, fun σ₃ K B3 => ?_⟩
 ·simp at hx
  rcases hx with rfl | rfl <;> omega
 ·exact q f kf σ₃ ((g1.trans g2).keep K) B3
end Mine
end
noncomputable section
set_option maxHeartbeats 1000000
namespace Mine
open PySem PySem.W PyProof.Rows PySem.Calls
structure Cm (ps : List (List Int)) (e N : Int) (kvs : List (Int × V)) : Prop where
 self : b9 kvs e = some (.int e)
 dom : ∀ x, (b9 kvs x).isSome = true → x ≠ e → e < x ∧ x < N ∧ ∃ p l, b9 kvs x = some (.int p) ∧ ps[x.toNat]? = some l ∧ p ∈ l ∧ (b9 kvs p).isSome = true
 all : ∀ x, x < N → Anc ps x e → (b9 kvs x).isSome = true
theorem Anc.inv {ps : List (List Int)} {x e : Int} (h : Anc ps x e) : x = e ∨ ∃ p l, ps[x.toNat]? = some l ∧ p ∈ l ∧ Anc ps p e := by
 cases h with
 | self => exact .inl rfl
 | up h1 h2 h3 => exact .inr ⟨_, _, h1, h2, h3⟩
theorem Anc.ge {ps : List (List Int)} (o : Ord ps) {x e : Int} (h : Anc ps x e) (e0 : 0 ≤ e) : e ≤ x := by
 induction h with
 | self n => exact Int.le_refl _
 | @up n p x l h1 h2 _ ih =>
  have hp := o.lt _ _ h1 p h2
  have := ih e0
  rcases Int.lt_or_le n 0 with hn | hn
  ·have e1 : n.toNat = 0 := Int.toNat_of_nonpos (Int.le_of_lt hn)
   rw [e1] at hp
   exact absurd hp.2 (Int.not_lt.mpr hp.1)
  ·obtain ⟨j, rfl⟩ := Int.eq_ofNat_of_zero_le hn
   exact Int.le_trans this (Int.le_of_lt hp.2)
theorem Cm.anc {ps : List (List Int)} (o : Ord ps) {e N : Int} {kvs : List (Int × V)} (c : Cm ps e N kvs) (e0 : 0 ≤ e) : ∀ (k : Nat), (b9 kvs (k : Int)).isSome = true → Anc ps k e := by
 intro k
 induction k using Nat.strongRecOn with
 | _ k ih =>
  intro h
  by_cases he : (k : Int) = e
  ·rw [he]; exact .self _
  ·obtain ⟨h1, h2, p, l, h3, h4, h5, h6⟩ := c.dom _ h he
   have hp := o.lt _ _ h4 p h5
   obtain ⟨j, rfl⟩ := Int.eq_ofNat_of_zero_le hp.1
   exact .up h4 h5 (ih j (Int.ofNat_lt.mp hp.2) h6)
theorem Road.cons {ps : List (List Int)} {c c' n : Int} {r l : List Int} (h : Road ps c n r) (hl : ps[c.toNat]? = some l) (hm : c' ∈ l) : Road ps c' n (c' :: r) := by
 induction h with
 | one => exact .more (r := [c']) .one hl hm
 | more _ h1 h2 ih => exact .more (ih) h1 h2
theorem jV {ns : List Int} {ps : List (List Int)} {e n N : Int} {kvs : List (Int × V)} {f w : Addr} {ep : Nat} {σ₀ : ai} {Q : Fl → bg → ai → Prop} (o : Ord ps) (c : Cm ps e N kvs) (e0 : 0 ≤ e) (hwf : w ≠ f)
  (q : ∀ m σ' r, (∀ z, z ≠ w → σ' z = σ₀ z) → σ' w = some (.list (r.reverse.map V.int)) → Road ps e n r → r.length ≤ 200 → m "row" = some (.ref w) → Q .next m σ') :
  ∀ (k : Nat) (cur : Int) (xs r : List Int) (m : bg) (σ' : ai), (cur - e).toNat < k → (b9 kvs cur).isSome = true → xs ++ [cur] = r.reverse → Road ps cur n r → r.length + (cur - e).toNat ≤ 200 → (∀ z, z ≠ w → σ' z = σ₀ z) → σ₀ f = some (.idict kvs ep) → σ' w = some (.list (xs.map V.int ++ [.int cur])) → m "row" = some (.ref w) → m "elder" = some (.int e) → m "came" = some (.ref f) →
   iM (aH (aB dv (aB (aK ns) (ae "row") (tB io (aE (.int 1)))) (ae "elder"))) (an (bO (br bN bq (ae "row") (ah (aB ip (ae "came") (aB (aK ns) (ae "row") (tB io (aE (.int 1))))) av))) aw) k m σ' Q
 | 0, cur, xs, r, m, σ', h, _, _, _, _, _, _, _, _, _, _ => absurd h (Nat.not_lt_zero _)
 | k + 1, cur, xs, r, m, σ', hk, hs, hr, hR, hlen, hz, hf, hw, m1, m2, m3 => by
  have hf' : σ' f = some (.idict kvs ep) := by rw [hz f hwf.symm]; exact hf
  unfold iM
  simp [m1, m2, m3]
  refine iU hw ?_
  by_cases he : cur = e
  ·subst he
   simp
   exact q m σ' r hz (by rw [← hr]; simpa using hw) hR (Nat.le_trans (Nat.le_add_right _ _) hlen) m1
  ·obtain ⟨h1, h2, p, l, h3, h4, h5, h6⟩ := c.dom _ hs he
   have hp := o.lt _ _ h4 p h5
   have hpe : e ≤ p := by
    by_cases hpp : p = e
    ·exact Int.le_of_eq hpp.symm
    ·exact Int.le_of_lt (c.dom p h6 hpp).1
   have hlt : p < cur := by
    have := hp.2
    rwa [Int.toNat_of_nonneg (Int.le_trans e0 (Int.le_of_lt h1))] at this
   simp [he, ak, m1, m3, bZ hw]
   refine iU hw ?_
   refine pQ hf' h3 ?_
   have hl1 : (xs.map V.int ++ [V.int cur]).length = r.length := by rw [← List.length_reverse (as := r), ← hr]; simp
   have hl2 : (xs.map V.int ++ [V.int cur]).length ≤ 200 := hl1 ▸ Nat.le_trans (Nat.le_add_right _ _) hlen
   have hstep : (p - e).toNat < (cur - e).toNat := (Int.toNat_lt_toNat (Int.sub_pos_of_lt (Int.lt_of_le_of_lt hpe hlt))).mpr (Int.sub_lt_sub_right hlt e)
   refine cF hw (Nat.lt_of_le_of_lt hl2 (by decide)) ?_
   exact jV o c e0 hwf q k p (xs ++ [cur]) (p :: r) _ _ (Nat.lt_of_lt_of_le hstep (Nat.le_of_lt_succ hk)) h6 (by rw [hr, List.reverse_cons]) (hR.cons h4 h5) (Nat.le_trans (by rw [List.length_cons, Nat.add_right_comm, Nat.add_assoc]; exact Nat.add_le_add_left hstep _) hlen) (fun z hz' => by rw [aC hz']; exact hz z hz') hf (by rw [au]; simp) (by simp [m1]) (by simp [m2]) (by simp [m3])
theorem uX (ns : List Int) : ∀ vs σ Q, sp_road ns vs σ Q → vs.length = 3 ∧ m7 ns (aF ["self", "elder", "number"] vs aN) σ (fin Q) := by
 rintro vs σ Q ⟨U, b, t, mo, ads, ts, ps, e, n, rfl, B, e0, e1, n0, n1, qn, qr⟩
 refine ⟨rfl, ?_⟩
 have o := B.ord
 have few : ts.length ≤ 200 := B.lenP ▸ o.few
 unfold m7
 rw [ak]
 simp [oV, bA B]
 refine eZ B e0 e1 ?_
 rw [ak]
 simp [oU, bA B]
 refine eZ B n0 n1 ?_
 rw [ak]
 simp [oT]
 intro f ef hf
 have xf := au σ f (.idict [(e, .int e)] ef)
 have g0 : Grow σ (aZ σ f (.idict [(e, .int e)] ef)) := Grow.refl.upd hf
 generalize (aZ σ f (.idict [(e, .int e)] ef)) = σ₂ at xf g0 ⊢
 rw [ak]
 simp [oS]
 refine ⟨⟨by omega, by omega, by omega, by omega⟩, ?_⟩
 have c0 : Cm ps e (e + 1) [(e, .int e)] := by
  have hg : ∀ x, b9 [(e, V.int e)] x = if x = e then some (.int e) else Option.none := fun x => by
   unfold b9
   by_cases h : x = e
   ·subst h; simp
   ·rw [if_neg h, List.find?_cons_of_neg (by simpa using Ne.symm h)]; rfl
  refine ⟨by rw [hg, if_pos rfl], fun x h1 h2 => ?_, fun x h1 h2 => ?_⟩
  ·rw [hg, if_neg h2] at h1; cases h1
  ·have := h2.ge o e0
   rw [hg, if_pos (by omega)]; rfl
 refine bd (fun i m σ' => ∃ kvs ep, σ' f = some (.idict kvs ep) ∧ Grow σ σ' ∧ Cm ps e (e + 1 + i) kvs ∧ kvs.length ≤ 1 + 2 * i ∧ m "self" = some (.ref b) ∧ m "came" = some (.ref f) ∧ m "number" = some (.int n) ∧ m "elder" = some (.int e)) (fun _ _ _ => False)
  (fun _ _ _ _ => trivial) _ ?_ ?_ (fun _ _ _ h => h.elim) _ _ ⟨_, _, xf, g0, by simpa using c0, by simp, by simp, by simp, by simp, by simp⟩
 ·rintro i v m σ' Q' hv ⟨kvs, ep, hk, g, c, hlen, hs, hc, hn, he⟩ q1 q2 q3
  obtain ⟨hi, rfl⟩ := cC hv
  have B' := B.grow g
  refine ⟨_, rfl, ?_⟩
  have k1 : e < e + 1 + (i : Int) := Int.lt_of_lt_of_le (Int.lt_add_one_of_le (Int.le_refl e)) (Int.le_add_of_nonneg_right (Int.natCast_nonneg i))
  have k2 : e + 1 + (i : Int) < e + 1 + ((i + 1 : Nat) : Int) := Int.add_lt_add_left (Int.ofNat_lt.mpr (Nat.lt_succ_self i)) _
  have hj0 : 0 ≤ e + 1 + (i : Int) := Int.le_trans e0 (Int.le_of_lt k1)
  have hlt2 : (e + 1 + (i : Int)).toNat < ps.length := by rw [B.lenP]; omega
  have hgl : ps[(e + 1 + (i : Int)).toNat]? = some ps[(e + 1 + (i : Int)).toNat] := List.getElem?_eq_getElem hlt2
  generalize ps[(e + 1 + (i : Int)).toNat] = l at hgl
  simp [ak, hs, qd B']
  refine B'.itemM hj0 hgl ?_
  have hol := o.lt _ _ hgl
  have hl2 := o.two _ _ hgl
  have hk0 : (((e + 1 + (i : Int)).toNat : Nat) : Int) = e + 1 + i := Int.toNat_of_nonneg hj0
  rw [hk0] at hol
  try simp
  refine bd (fun j m σ'' => ∃ kvs' ep', σ'' f = some (.idict kvs' ep') ∧ Grow σ σ'' ∧ m "self" = some (.ref b) ∧ m "came" = some (.ref f) ∧ m "number" = some (.int n) ∧ m "elder" = some (.int e) ∧ m "k" = some (.int (e + 1 + i)) ∧ kvs'.length ≤ kvs.length + j ∧
    (∀ x, x ≠ e + 1 + i → b9 kvs' x = b9 kvs x) ∧ ((b9 kvs' (e + 1 + i)).isSome = true → ∃ p, b9 kvs' (e + 1 + i) = some (.int p) ∧ p ∈ l ∧ (b9 kvs p).isSome = true) ∧ (∀ p ∈ l.take j, (b9 kvs p).isSome = true → (b9 kvs' (e + 1 + i)).isSome = true))
   (fun _ _ _ => False) (fun _ _ _ _ => trivial) _ ?_ ?_ (fun _ _ _ h => h.elim) _ _ ⟨kvs, ep, hk, g, by simp [hs], by simp [hc], by simp [hn], by simp [he], by simp, by simp, fun _ _ => rfl, fun h => absurd (c.dom _ h (Int.ne_of_gt k1)).2.1 (Int.lt_irrefl _), by simp⟩
  ·rintro j v m σ'' Q'' hv ⟨kvs', ep', hk', g', hs', hc', hn', he', hkk, hlen', a1, a2, a3⟩ r1 r2 r3
   obtain ⟨p, hp, rfl⟩ := pT hv
   have hj : j < l.length := (List.getElem?_eq_some_iff.mp hp).1
   have hpl := List.mem_of_getElem? hp
   have hpk : p ≠ e + 1 + i := Int.ne_of_lt (hol p hpl).2
   refine ⟨_, rfl, ?_⟩
   simp [ak, hc', hkk]
   refine og hk' ?_
   simp only [n8]
   split
   ·rename_i hyes
    have hle := jf kvs' (e + 1 + i) (.int p)
    refine lm hk' (by omega) fun ep'' => ?_
    rw [a1 p hpk] at hyes
    refine r1 _ _ ⟨_, _, au _ _ _, g'.over hf, by simp [hs'], by simp [hc'], by simp [hn'], by simp [he'], by simp [hkk], by omega, fun x hx => ?_, fun _ => ?_, fun y hy h => ?_⟩
    ·rw [fQ, if_neg hx]; exact a1 x hx
    ·exact ⟨p, by rw [fQ, if_pos rfl], hpl, hyes⟩
    ·rw [fQ, if_pos rfl]; rfl
   ·rename_i hno
    refine r1 _ _ ⟨kvs', ep', hk', g', by simp [hs'], by simp [hc'], by simp [hn'], by simp [he'], by simp [hkk], by omega, a1, a2, fun y hy h => ?_⟩
    rw [List.take_add_one, hp] at hy
    rcases List.mem_append.mp hy with hy | hy
    ·exact a3 y hy h
    ·simp at hy; subst hy
     rw [a1 y hpk] at hno
     exact absurd h hno
  ·rintro m σ'' ⟨kvs', ep', hk', g', hs', hc', hn', he', hkk, hlen', a1, a2, a3⟩
   rw [List.length_map] at hlen' a3
   rw [List.take_length] at a3
   try simp
   have hee : e ≠ e + 1 + i := Int.ne_of_lt k1
   refine q1 _ _ ⟨kvs', ep', hk', g', ⟨by rw [a1 e hee]; exact c.self, fun x h1 h2 => ?_, fun x h1 h2 => ?_⟩, by omega, hs', hc', hn', he'⟩
   ·by_cases hx : x = e + 1 + i
    ·subst hx
     obtain ⟨p, p1, p2, p3⟩ := a2 h1
     exact ⟨k1, k2, p, l, p1, hgl, p2, by rw [a1 p (Int.ne_of_lt (hol p p2).2)]; exact p3⟩
    ·rw [a1 x hx] at h1
     obtain ⟨b1, b2, p, l', b3, b4, b5, b6⟩ := c.dom x h1 h2
     have hp := o.lt _ _ b4 p b5
     rw [Int.toNat_of_nonneg (Int.le_trans e0 (Int.le_of_lt b1))] at hp
     exact ⟨b1, Int.lt_trans b2 k2, p, l', by rw [a1 x hx]; exact b3, b4, b5, by rw [a1 p (Int.ne_of_lt (Int.lt_trans hp.2 b2))]; exact b6⟩
   ·by_cases hx : x = e + 1 + i
    ·subst hx
     rcases h2.inv with h | ⟨p, l', u1, u2, u3⟩
     ·exact absurd h.symm hee
     ·rw [hgl] at u1; cases u1
      exact a3 p u2 (c.all p (hol p u2).2 u3)
    ·rw [a1 x hx]; exact c.all x (Int.lt_iff_le_and_ne.mpr ⟨Int.le_of_lt_add_one (by rw [Int.add_assoc (e + 1)]; exact h1), hx⟩) h2
 ·rintro m σ' ⟨kvs, ep, hk, g, c, hlen, hs, hc, hn, he⟩
  rw [eA] at c
  rw [aU, ak]
  simp [oR, hn, hc]
  refine nW hk ?_
  have hanc : (b9 kvs n).isSome = true ↔ Anc ps n e := by
   obtain ⟨j, rfl⟩ := Int.eq_ofNat_of_zero_le n0
   refine ⟨c.anc o e0 j, fun h => ?_⟩
   have := h.ge o e0
   exact c.all _ (by omega) h
  by_cases hA : Anc ps n e
  ·have hsm := hanc.mpr hA
   simp [hsm]
   rw [ak]
   simp [oQ, hn]
   intro w hw
   have hwf : w ≠ f := by rintro rfl; rw [hk] at hw; cases hw
   have xw := au σ' w (.list [.int n])
   have hwn := g.none hw
   have s1 : ∀ z, z ≠ w → aZ σ' w (.list [.int n]) z = σ' z := fun z h => aC h
   generalize (aZ σ' w (.list [.int n])) = σ₃ at xw s1 ⊢
   rw [ak]
   have hge := hA.ge o e0
   refine ⟨(n - e).toNat + 1, ?_⟩
   refine jV (f := f) (w := w) (ep := ep) (σ₀ := σ') o c e0 hwf (fun m₂ σ₄ r z1 z2 z3 z4 z5 => ?_) _ n [] [n] _ σ₃ (Nat.lt_succ_self _) hsm rfl .one (by simp; omega) s1 hk (by simpa using xw) (by simp) (by simp [he]) (by simp [hc])
   rw [aU, ak]
   simp [oP, z5]
   refine sg z2 fun a ha => ?_
   rw [← List.map_reverse, List.reverse_reverse]
   have g4 : Grow σ σ₄ := fun z oz ez => by
    have : z ≠ w := by rintro rfl; rw [hwn] at ez; cases ez
    rw [z1 z this]; exact g z oz ez
   exact qr r z3 z4 a _ (g4.upd ha) (g4.none ha) (au _ _ _)
  ·have hsm : (b9 kvs n).isSome = false := by
    cases hh : (b9 kvs n).isSome with
    | false => rfl
    | true => exact absurd (hanc.mp hh) hA
   simp [hsm, ak]
   exact qn hA σ' g
end Mine
end
noncomputable section
set_option maxHeartbeats 1000000
namespace Mine
open PySem PySem.W PyProof.Rows PySem.Calls
theorem tO (ns : List Int) : ∀ vs σ Q, sp__law_whole ns vs σ Q → vs.length = 1 ∧ dB ns (aF ["_law_found"] vs aN) σ (fin Q) := by
 rintro vs σ Q ⟨n, rfl, q⟩
 refine ⟨rfl, ?_⟩
 unfold dB
 rw [ak]
 simp [f5]
 exact q
@[simp] theorem wP {ns : List Int} {σ : ai} {Q : V → ai → Prop} {n : Int} : sp__law_whole ns [.int n] σ Q = Q (.bool true) σ := propext ⟨fun ⟨_, e, q⟩ => q, fun h => ⟨_, rfl, h⟩⟩
theorem ve (ns : List Int) : ∀ vs σ Q, sp__law_cell_at ns vs σ Q → vs.length = 2 ∧ cZ ns (aF ["_law_script", "_law_k"] vs aN) σ (fin Q) := by
 rintro vs σ Q ⟨k, rfl, h0, q⟩
 refine ⟨rfl, ?_⟩
 simp [cZ, eP, eO, ak]
 split
 ·rename_i h; exact rH h0 h q
 ·rename_i h; rw [tf h0 h] at q; exact q
theorem wV (ns : List Int) : ∀ vs σ Q, sp__law_are_whole ns vs σ Q → vs.length = 1 ∧ cm ns (aF ["_law_found"] vs aN) σ (fin Q) := by
 rintro vs σ Q ⟨v, l, rfl, h, hl, q⟩
 refine ⟨rfl, ?_⟩
 unfold cm
 rw [ak]
 simp [dZ]
 have main : ∀ inv : ai → Prop, inv σ → dn (.name "_law_number") inv (dq (aH (az (sp__law_whole ns) (ah (ae "_law_number") av)))) (ae "_law_number") (only [] (put aN "_law_found" v)) (l.map V.int) [] σ fun xs σ₁ => dc xs σ₁ fun v σ₁ => bh ns [v] σ₁ fun v σ₁ => bR v (.int 0) σ₁ Q := by
  intro inv hinv
  refine bK (fun s => s = σ) (fun s hs => by rw [hs]; exact hinv) (fun _ => Option.none) _ _ _ _ (by simp; exact Nat.le_trans hl (by decide)) ?_ rfl ?_
  ·rintro v hv s Q₁ Q₂ rfl n1 n2
   obtain ⟨x, hx, rfl⟩ := List.mem_map.mp hv
   refine ⟨_, rfl, ?_⟩
   simp
   exact n2 _ rfl rfl
  ·rintro s rfl r hr
   have e : (l.map V.int).filterMap (fun _ => (Option.none : Option V)) = [] := by simp
   rw [List.nil_append, e, aV (au _ _ _)]
   simp
   exact q _ (Grow.refl.upd hr)
 rcases h with rfl | ⟨a, rfl, ha⟩
 ·exact main _ trivial
 ·rw [bb ha]; exact main _ ha
end Mine
end
noncomputable section
set_option maxHeartbeats 1000000
namespace Mine
open PySem PySem.W PyProof.Rows PySem.Calls
noncomputable def pS (v : V) (F : Int → Option V) : Option V := match v with | .int x => F x | _ => Option.none
theorem er {bs : List Bool} {i k : Nat} (hi : i < bs.length) : (bs.set i true)[k]? = some true ↔ k = i ∨ bs[k]? = some true := by
 rw [List.getElem?_set]
 split
 ·rename_i h; subst h
  exact ⟨fun _ => .inl rfl, fun _ => rfl⟩
 ·rename_i h
  exact ⟨.inr, fun z => z.elim (fun e => absurd e.symm h) id⟩
theorem jL {bs : List Bool} {σ : ai} {a : Addr} {k : Int} {ns : List Int} {Q : V → ai → Prop} (h : σ a = some (.list (bs.map .bool))) (h0 : 0 ≤ k) (hk : k.toNat < bs.length) (q : ∀ c, bs[k.toNat]? = some c → Q (.bool c) σ) : aK ns (.ref a) (.int k) σ Q :=
 bw h h0 (v := .bool bs[k.toNat]) (by rw [List.getElem?_map, List.getElem?_eq_getElem hk]; rfl) (q _ (List.getElem?_eq_getElem hk))
theorem iu {bs : List Bool} {σ : ai} {a : Addr} {k : Int} {c : Bool} {R : ai → Prop} (h : σ a = some (.list (bs.map .bool))) (h0 : 0 ≤ k) (hk : k.toNat < bs.length) (q : R (aZ σ a (.list ((bs.set k.toNat c).map .bool)))) : pF (.ref a) (.int k) (.bool c) σ R :=
 q9 h h0 (by rw [List.length_map]; exact hk) (by rwa [← List.map_set])
theorem jH {ps : List (List Int)} {σ : ai} {o : Addr} {k : Int} {l : List Int} {ns : List Int} {Q : V → ai → Prop} (h : σ o = some (.list (bn ps))) (h0 : 0 ≤ k) (hl : ps[k.toNat]? = some l) (q : Q (.tup (l.map .int)) σ) : aK ns (.ref o) (.int k) σ Q :=
 bw h h0 (by unfold bn; rw [List.getElem?_map, hl]; rfl) q
theorem bD {ps : List (List Int)} : (bn ps).length = ps.length := by unfold bn; rw [List.length_map]
theorem oo (p : Nat → Bool) : ∀ l : List Nat, (l.map fun (i : Nat) => V.int (0 + (i : Int))).filterMap (fun v => pS v fun x => if p x.toNat then some v else Option.none) = ((l.filter p).map fun (k : Nat) => (k : Int)).map V.int
 | [] => rfl
 | k :: r => by
  have ih := oo p r
  rw [List.map_cons, List.filterMap_cons]
  have e : pS (V.int (0 + (k : Int))) (fun x => if p x.toNat then some (V.int (0 + (k : Int))) else Option.none) = if p k then some (V.int k) else Option.none := by
   show (if p (0 + (k : Int)).toNat then some (V.int (0 + (k : Int))) else Option.none) = _
   rw [Int.zero_add, Int.toNat_natCast]
  rw [e]
  cases h : p k with
  | true => rw [List.filter_cons_of_pos h, if_pos rfl, ih]; rfl
  | false => rw [List.filter_cons_of_neg (by rw [h]; exact Bool.false_ne_true), if_neg Bool.false_ne_true, ih]
structure Kn (ps : List (List Int)) (n : Int) (i : Nat) (bs : List Bool) : Prop where
 len : bs.length = ps.length
 anc : ∀ k : Nat, bs[k]? = some true → Anc ps n k
 self : bs[n.toNat]? = some true
 up : ∀ k : Nat, bs[k]? = some true → ps.length ≤ k + i → ∀ l, ps[k]? = some l → ∀ p ∈ l, bs[p.toNat]? = some true
theorem Kn.all {ps : List (List Int)} (o : Ord ps) {n : Int} {bs : List Bool} (K : Kn ps n ps.length bs) (h0 : 0 ≤ n) : ∀ x, Anc ps n x → bs[x.toNat]? = some true := by
 intro x h
 have key : ∀ {y x : Int}, Anc ps y x → bs[y.toNat]? = some true → bs[x.toNat]? = some true := by
  intro y x h
  induction h with
  | self _ => exact id
  | up h1 h2 _ ih => intro hy; exact ih (K.up _ hy (Nat.le_add_left _ _) _ h1 _ h2)
 exact key h K.self
theorem nO (ns : List Int) : ∀ vs σ Q, sp__law_elders_by ns vs σ Q → vs.length = 2 ∧ ck ns (aF ["_law_older", "_law_number"] vs aN) σ (fin Q) := by
 rintro vs σ Q ⟨o, ps, n, rfl, xo, ho, h0, h1, q⟩
 refine ⟨rfl, ?_⟩
 have few := ho.few
 have hn : n.toNat < ps.length := ei h0 h1
 unfold ck
 rw [ak]
 simp [dY]
 intro z hz
 have xo1 : aZ σ z (.list [.bool false]) o = some (.list (bn ps)) := by rw [aC (by rintro rfl; rw [xo] at hz; cases hz)]; exact xo
 have g0 : Grow σ (aZ σ z (.list [.bool false])) := Grow.refl.upd hz
 have xz := au σ z (.list [.bool false])
 generalize (aZ σ z (.list [.bool false])) = σ₁ at xo1 g0 xz ⊢
 simp [aV xo1, bD]
 refine nZ xz (Int.natCast_nonneg _) (by omega) fun k hk => ?_
 have e1 : List.replicate ((ps.length : Int)).toNat (V.bool false) = (List.replicate ps.length false).map V.bool := by rw [List.map_replicate, Int.toNat_natCast]
 rw [e1]
 have hkn := g0.none hk
 have g1 : Grow σ (aZ σ₁ k (.list ((List.replicate ps.length false).map V.bool))) := g0.upd hk
 have xk := au σ₁ k (.list ((List.replicate ps.length false).map V.bool))
 generalize (aZ σ₁ k (.list ((List.replicate ps.length false).map V.bool))) = σ₂ at g1 xk ⊢
 rw [ak]
 simp [dX]
 refine iu xk h0 (by rw [List.length_replicate]; exact hn) ?_
 have hok : o ≠ k := by rintro rfl; rw [xo] at hkn; cases hkn
 have g2 : Grow σ (aZ σ₂ k (.list (((List.replicate ps.length false).set n.toNat true).map V.bool))) := g1.over hkn
 have xk2 := au σ₂ k (.list (((List.replicate ps.length false).set n.toNat true).map V.bool))
 generalize (aZ σ₂ k (.list (((List.replicate ps.length false).set n.toNat true).map V.bool))) = σ₃ at g2 xk2 ⊢
 have hlr : n.toNat < (List.replicate ps.length false).length := by rw [List.length_replicate]; exact hn
 have K0 : Kn ps n 0 ((List.replicate ps.length false).set n.toNat true) := by
  have only : ∀ k : Nat, ((List.replicate ps.length false).set n.toNat true)[k]? = some true → k = n.toNat := fun k h => by
   rcases (er hlr).mp h with h | h
   ·exact h
   ·rw [List.getElem?_replicate] at h; split at h <;> cases h
  refine ⟨by simp, fun k h => ?_, (er hlr).mpr (.inl rfl), fun k h hi l hl p hp => ?_⟩
  ·rw [only k h, Int.toNat_of_nonneg h0]; exact .self _
  ·rw [only k h] at hi; exact absurd hi (Nat.not_le.mpr hn)
 rw [ak]
 simp [dW, aV (g2 _ _ xo), bD]
 refine ⟨by omega, ?_⟩
 refine bd (fun i m σ' => ∃ bs, σ' k = some (.list (bs.map .bool)) ∧ Grow σ σ' ∧ Kn ps n i bs ∧ m "_law_older" = some (.ref o) ∧ m "_law_known" = some (.ref k)) (fun _ _ _ => False)
  (fun _ _ _ _ => trivial) _ ?_ ?_ (fun _ _ _ h => h.elim) _ _ ⟨_, xk2, g2, K0, by simp, by simp⟩
 ·rintro i v m σ' Q' hv ⟨bs, hb, g, K, mo, mk⟩ n1 n2 n3
  obtain ⟨hi, rfl⟩ := cC hv
  refine ⟨_, rfl, ?_⟩
  have xo' := g _ _ xo
  have hj0 : (0 : Int) ≤ (ps.length : Int) - 1 - (i : Int) := by omega
  have hjn : ((ps.length : Int) - 1 - (i : Int)).toNat = ps.length - 1 - i := by omega
  have hjl : ps.length - 1 - i < ps.length := by omega
  simp [ak, mo, mk, aV xo', bD]
  refine jL hb hj0 (by rw [hjn, K.len]; exact hjl) fun c hc => ?_
  rw [hjn] at hc
  simp
  cases c with
  | false =>
   simp
   refine n1 _ _ ⟨bs, hb, g, ⟨K.len, K.anc, K.self, fun k' h hle l hl p hp => ?_⟩, by simp [mo], by simp [mk]⟩
   by_cases hk' : k' = ps.length - 1 - i
   ·subst hk'; rw [hc] at h; cases h
   ·have : k' < ps.length := by rw [← K.len]; exact (List.getElem?_eq_some_iff.mp h).1
    exact K.up k' h (by omega) l hl p hp
  | true =>
   obtain ⟨l, hl⟩ : ∃ l, ps[ps.length - 1 - i]? = some l := ⟨_, List.getElem?_eq_getElem hjl⟩
   have hlo := ho.lt _ _ hl
   simp
   refine jH xo' hj0 (by rw [hjn]; exact hl) ?_
   try simp
   refine bd (fun j m σ'' => ∃ bs', σ'' k = some (.list (bs'.map .bool)) ∧ Grow σ σ'' ∧ m "_law_older" = some (.ref o) ∧ m "_law_known" = some (.ref k) ∧ bs'.length = ps.length ∧ (∀ k' : Nat, bs[k']? = some true → bs'[k']? = some true) ∧ (∀ k' : Nat, bs'[k']? = some true → bs[k']? = some true ∨ (k' : Int) ∈ l) ∧ (∀ p ∈ l.take j, bs'[p.toNat]? = some true))
    (fun _ _ _ => False) (fun _ _ _ _ => trivial) _ ?_ ?_ (fun _ _ _ h => h.elim) _ _ ⟨bs, hb, g, by simp [mo], by simp [mk], K.len, fun _ h => h, fun _ h => .inl h, by simp⟩
   ·rintro j v m σ'' Q'' hv ⟨bs', hb', g', mo', mk', c1, c2, c3, c4⟩ r1 r2 r3
    obtain ⟨p, hp, rfl⟩ := pT hv
    have hpl := List.mem_of_getElem? hp
    have hpo := hlo p hpl
    have hpn : p.toNat < bs'.length := by rw [c1]; omega
    refine ⟨_, rfl, ?_⟩
    simp [ak, mk']
    refine iu hb' hpo.1 hpn ?_
    refine r1 _ _ ⟨_, au _ _ _, g'.over hkn, by simp [mo'], by simp [mk'], by rw [List.length_set]; exact c1, fun k' h => (er hpn).mpr (.inr (c2 k' h)), fun k' h => ?_, fun y hy => ?_⟩
    ·rcases (er hpn).mp h with rfl | h
     ·rw [Int.toNat_of_nonneg hpo.1]; exact .inr hpl
     ·exact c3 k' h
    ·rw [List.take_add_one, hp] at hy
     rcases List.mem_append.mp hy with hy | hy
     ·exact (er hpn).mpr (.inr (c4 y hy))
     ·simp at hy; subst hy; exact (er hpn).mpr (.inl rfl)
   ·rintro m σ'' ⟨bs', hb', g', mo', mk', c1, c2, c3, c4⟩
    rw [List.length_map, List.take_length] at c4
    try simp
    refine n1 _ _ ⟨bs', hb', g', ⟨c1, fun k' h => ?_, c2 _ K.self, fun k' h hle l' hl' p hp => ?_⟩, mo', mk'⟩
    ·rcases c3 k' h with h | h
     ·exact K.anc k' h
     ·exact (K.anc _ hc).step (l := l) (by rw [Int.toNat_natCast]; exact hl) h
    ·by_cases hk' : k' = ps.length - 1 - i
     ·subst hk'; rw [hl] at hl'; cases hl'; exact c4 p hp
     ·have hkl : k' < ps.length := by rw [← c1]; exact (List.getElem?_eq_some_iff.mp h).1
      rcases c3 k' h with h | h
      ·exact c2 _ (K.up k' h (by omega) l' hl' p hp)
      ·have := hlo _ h; omega
 ·rintro m σ' ⟨bs, hb, g, K, mo, mk⟩
  rw [eA] at K
  rw [aU, ak]
  simp [dU, mo, mk, aV (g _ _ xo), bD]
  refine ⟨by omega, ?_⟩
  refine bK (fun s => s = σ') (fun s hs => trivial) (fun v => pS v fun x => if decide (bs[x.toNat]? = some true) then some v else Option.none) _ _ _ _ (by simp [eA]; omega) ?_ rfl ?_
  ·rintro v hv s Q₁ Q₂ rfl r1 r2
   obtain ⟨i, hi'⟩ := List.getElem?_of_mem hv
   obtain ⟨hi, rfl⟩ := cC hi'
   refine ⟨_, rfl, ?_⟩
   simp [mk]
   refine jL hb (by omega) (by rw [K.len]; simpa using hi) fun c hc => ?_
   simp
   cases c with
   | true => simp; exact r1 _ _ rfl (by show (if decide (bs[(0 + (i : Int)).toNat]? = some true) then _ else _) = _; rw [Int.zero_add, show bs[((i : Int)).toNat]? = some true by simpa using hc]; simp)
   | false => simp; exact r2 _ rfl (by show (if decide (bs[(0 + (i : Int)).toNat]? = some true) then _ else _) = _; rw [Int.zero_add, show bs[((i : Int)).toNat]? = some false by simpa using hc]; simp)
  ·rintro s rfl r hr
   rw [List.nil_append]
   unfold cK
   rw [oo (fun k => decide (bs[k]? = some true))]
   refine q _ ⟨?_, fun x => ?_⟩ r _ (g.upd hr) (g.none hr) (au _ _ _)
   ·rw [List.pairwise_map]
    exact (List.pairwise_lt_range.filter _).imp fun h => Int.ofNat_lt.mpr h
   ·rw [List.mem_map]
    constructor
    ·rintro ⟨k', hk', rfl⟩
     exact K.anc k' (by simpa using (List.mem_filter.mp hk').2)
    ·intro h
     have h3 := K.all ho h0 x h
     have hle := h.le ho.lt h0
     have hx : x.toNat < ps.length := by rw [← K.len]; exact (List.getElem?_eq_some_iff.mp h3).1
     exact ⟨x.toNat, List.mem_filter.mpr ⟨List.mem_range.mpr hx, by simpa using h3⟩, Int.toNat_of_nonneg hle.1⟩
end Mine
end
noncomputable section
set_option maxHeartbeats 1000000
namespace Mine
open PySem PySem.W PyProof.Rows PySem.Calls
theorem mF (p : Int → Bool) : ∀ l : List Int, (l.map V.int).filterMap (fun v => pS v fun x => if p x then some v else Option.none) = (l.filter p).map V.int
 | [] => rfl
 | x :: r => by
  have ih := mF p r
  rw [List.map_cons, List.filterMap_cons]
  have e : pS (V.int x) (fun y => if p y then some (V.int x) else Option.none) = if p x then some (V.int x) else Option.none := rfl
  rw [e]
  cases h : p x with
  | true => rw [List.filter_cons_of_pos h, if_pos rfl, ih]; rfl
  | false => rw [List.filter_cons_of_neg (by rw [h]; exact Bool.false_ne_true), if_neg Bool.false_ne_true, ih]
theorem vf (ns : List Int) : ∀ vs σ Q, sp__law_came_of ns vs σ Q → vs.length = 2 ∧ c7 ns (aF ["_law_older", "_law_elder"] vs aN) σ (fin Q) := by
 rintro vs σ Q ⟨o, ps, e, rfl, xo, ho, h0, h1, q⟩
 refine ⟨rfl, ?_⟩
 have few := ho.few
 have hn : e.toNat < ps.length := ei h0 h1
 unfold c7
 rw [ak]
 simp [eU]
 intro z hz
 have xo1 : aZ σ z (.list [.bool false]) o = some (.list (bn ps)) := by rw [aC (by rintro rfl; rw [xo] at hz; cases hz)]; exact xo
 have g0 : Grow σ (aZ σ z (.list [.bool false])) := Grow.refl.upd hz
 have xz := au σ z (.list [.bool false])
 generalize (aZ σ z (.list [.bool false])) = σ₁ at xo1 g0 xz ⊢
 simp [aV xo1, bD]
 refine nZ xz (Int.natCast_nonneg _) (by omega) fun k hk => ?_
 have e1 : List.replicate ((ps.length : Int)).toNat (V.bool false) = (List.replicate ps.length false).map V.bool := by rw [List.map_replicate, Int.toNat_natCast]
 rw [e1]
 have hkn := g0.none hk
 have g1 : Grow σ (aZ σ₁ k (.list ((List.replicate ps.length false).map V.bool))) := g0.upd hk
 have xk := au σ₁ k (.list ((List.replicate ps.length false).map V.bool))
 generalize (aZ σ₁ k (.list ((List.replicate ps.length false).map V.bool))) = σ₂ at g1 xk ⊢
 rw [ak]
 simp [eT]
 refine iu xk h0 (by rw [List.length_replicate]; exact hn) ?_
 have g2 : Grow σ (aZ σ₂ k (.list (((List.replicate ps.length false).set e.toNat true).map V.bool))) := g1.over hkn
 have xk2 := au σ₂ k (.list (((List.replicate ps.length false).set e.toNat true).map V.bool))
 generalize (aZ σ₂ k (.list (((List.replicate ps.length false).set e.toNat true).map V.bool))) = σ₃ at g2 xk2 ⊢
 have hlr : e.toNat < (List.replicate ps.length false).length := by rw [List.length_replicate]; exact hn
 have I0 : ∀ (k' : Nat) c, (k' : Int) < e + 1 → ((List.replicate ps.length false).set e.toNat true)[k']? = some c → (c = true ↔ Anc ps k' e) := by
  intro k' c hlt hc
  by_cases hk' : k' = e.toNat
  ·subst hk'
   rw [List.getElem?_set_self hlr] at hc
   cases hc
   rw [Int.toNat_of_nonneg h0]
   exact ⟨fun _ => .self _, fun _ => rfl⟩
  ·rw [List.getElem?_set_ne (Ne.symm hk'), List.getElem?_replicate] at hc
   split at hc
   ·cases hc
    refine ⟨fun h => (nomatch h), fun h => ?_⟩
    have := h.ge ho h0
    exact absurd (show k' = e.toNat by omega) hk'
   ·cases hc
 rw [ak]
 simp [eR, aV (g2 _ _ xo), bD]
 refine ⟨⟨by omega, by omega, by omega⟩, ?_⟩
 refine bd (fun i m σ' => ∃ bs : List Bool, σ' k = some (.list (bs.map .bool)) ∧ Grow σ σ' ∧ bs.length = ps.length ∧ (∀ (k' : Nat) c, (k' : Int) < e + 1 + i → bs[k']? = some c → (c = true ↔ Anc ps k' e)) ∧ m "_law_older" = some (.ref o) ∧ m "_law_came" = some (.ref k)) (fun _ _ _ => False)
  (fun _ _ _ _ => trivial) _ ?_ ?_ (fun _ _ _ h => h.elim) _ _ ⟨_, xk2, g2, by simp, by simpa using I0, by simp, by simp⟩
 ·rintro i v m σ' Q' hv ⟨bs, hb, g, hl, I, mo, mk⟩ n1 n2 n3
  obtain ⟨hi, rfl⟩ := cC hv
  refine ⟨_, rfl, ?_⟩
  have xo' := g _ _ xo
  have hj0 : (0 : Int) ≤ e + 1 + (i : Int) := by omega
  have hjl : (e + 1 + (i : Int)).toNat < ps.length := by omega
  obtain ⟨l, hl'⟩ : ∃ l, ps[(e + 1 + (i : Int)).toNat]? = some l := ⟨_, List.getElem?_eq_getElem hjl⟩
  have hlo := ho.lt _ _ hl'
  have hl2 := ho.two _ _ hl'
  simp [ak, mo, mk]
  refine jH xo' hj0 hl' ?_
  refine bK (fun s => s = σ') (fun s hs => trivial) (fun v => pS v fun x => if decide (bs[x.toNat]? = some true) then some v else Option.none) _ _ _ _ (by simp; omega) ?_ rfl ?_
  ·rintro v hv s Q₁ Q₂ rfl r1 r2
   obtain ⟨p, hp, rfl⟩ := List.mem_map.mp hv
   have hpo := hlo p hp
   refine ⟨_, rfl, ?_⟩
   simp [mk]
   refine jL hb hpo.1 (by rw [hl]; omega) fun c hc => ?_
   simp
   cases c with
   | true => simp; exact r1 _ _ rfl (by show (if decide (bs[p.toNat]? = some true) then _ else _) = _; rw [hc]; simp)
   | false => simp; exact r2 _ rfl (by show (if decide (bs[p.toNat]? = some true) then _ else _) = _; rw [hc]; simp)
  ·rintro s rfl r hr
   rw [List.nil_append, mF (fun x => decide (bs[x.toNat]? = some true))]
   have hrk : k ≠ r := by rintro rfl; rw [hb] at hr; cases hr
   have hb2 : aZ s r (.list ((l.filter fun x => decide (bs[x.toNat]? = some true)).map V.int)) k = some (.list (bs.map .bool)) := by rw [aC hrk]; exact hb
   have g3 : Grow σ (aZ s r (.list ((l.filter fun x => decide (bs[x.toNat]? = some true)).map V.int))) := g.upd hr
   rw [aV (au _ _ _)]
   generalize (aZ s r (.list ((l.filter fun x => decide (bs[x.toNat]? = some true)).map V.int))) = σ₄ at hb2 g3 ⊢
   simp [mk]
   refine iu hb2 hj0 (by rw [hl]; exact hjl) ?_
   refine n1 _ _ ⟨_, au _ _ _, g3.over hkn, by rw [List.length_set]; exact hl, fun k' c hlt hc => ?_, by simp [mo], by simp [mk]⟩
   by_cases hk' : k' = (e + 1 + (i : Int)).toNat
   ·subst hk'
    rw [List.getElem?_set_self (by rw [hl]; exact hjl)] at hc
    cases hc
    rw [decide_eq_true_iff]
    have hc0 : (((e + 1 + (i : Int)).toNat : Nat) : Int) = e + 1 + i := Int.toNat_of_nonneg hj0
    constructor
    ·rintro ⟨p, p1, p2⟩
     have hpo := hlo p p1
     have hpc : ((p.toNat : Nat) : Int) = p := Int.toNat_of_nonneg hpo.1
     have := (I p.toNat true (by omega) p2).mp rfl
     rw [hpc] at this
     exact .up (by rw [Int.toNat_natCast]; exact hl') p1 this
    ·intro h
     rcases h.inv with h | ⟨p, l', u1, u2, u3⟩
     ·omega
     ·rw [Int.toNat_natCast, hl'] at u1
      cases u1
      have hpo := hlo p u2
      have hpc : ((p.toNat : Nat) : Int) = p := Int.toNat_of_nonneg hpo.1
      have hpl : p.toNat < bs.length := by rw [hl]; omega
      have := (I p.toNat bs[p.toNat] (by omega) (List.getElem?_eq_getElem hpl)).mpr (by rw [hpc]; exact u3)
      exact ⟨p, u2, by rw [List.getElem?_eq_getElem hpl, this]⟩
   ·rw [List.getElem?_set_ne (Ne.symm hk')] at hc
    exact I k' c (by omega) hc
 ·rintro m σ' ⟨bs, hb, g, hl, I, mo, mk⟩
  rw [eA] at I
  rw [aU, ak]
  simp [eQ, mk]
  exact q bs hl (fun k' c hc => I k' c (by have := (List.getElem?_eq_some_iff.mp hc).1; omega) hc) k σ' g hkn hb
theorem Road.first {ps : List (List Int)} {e n : Int} {r : List Int} (h : Road ps e n r) : r[0]? = some e := by
 induction h with
 | one => rfl
 | @more n p r l _ _ _ ih =>
  have : 0 < r.length := (List.getElem?_eq_some_iff.mp ih).1
  rw [List.getElem?_append_left this]; exact ih
theorem Road.last {ps : List (List Int)} {e n : Int} {r : List Int} (h : Road ps e n r) : ∃ s, r = s ++ [n] := by
 cases h with
 | one => exact ⟨[], rfl⟩
 | more _ _ _ => exact ⟨_, rfl⟩
theorem Road.step {ps : List (List Int)} {e n : Int} {r : List Int} (h : Road ps e n r) : ∀ (k : Nat) x y, r[k]? = some x → r[k + 1]? = some y → ∃ l, ps[y.toNat]? = some l ∧ x ∈ l := by
 induction h with
 | one => intro k x y _ h; simp at h
 | @more n p r l hr h1 h2 ih =>
  intro k x y hx hy
  rcases Nat.lt_or_ge (k + 1) r.length with hk | hk
  ·rw [List.getElem?_append_left (Nat.lt_of_succ_lt hk)] at hx
   rw [List.getElem?_append_left hk] at hy
   exact ih k x y hx hy
  ·rw [List.getElem?_append_right hk] at hy
   have hk2 : k + 1 - r.length = 0 := by
    have := (List.getElem?_eq_some_iff.mp hy).1
    simpa using this
   rw [hk2] at hy
   simp at hy
   subst hy
   obtain ⟨s, rfl⟩ := hr.last
   have hks : k = s.length := by simp at hk hk2; omega
   subst hks
   simp at hx
   subst hx
   exact ⟨l, h1, h2⟩
theorem Road.low {ps : List (List Int)} (o : Ord ps) {e n : Int} {r : List Int} (h : Road ps e n r) (e0 : 0 ≤ e) : 0 ≤ n ∧ ∀ x ∈ r, 0 ≤ x ∧ x ≤ n := by
 induction h with
 | one => exact ⟨e0, fun x hx => by rw [List.mem_singleton.mp hx]; exact ⟨e0, Int.le_refl _⟩⟩
 | @more n p r l _ h1 h2 ih =>
  have hp := o.lt _ _ h1 p h2
  have hn : 0 ≤ n ∧ p < n := by
   rcases Int.lt_or_le n 0 with hn | hn
   ·rw [Int.toNat_of_nonpos (Int.le_of_lt hn)] at hp
    exact absurd hp.2 (Int.not_lt.mpr hp.1)
   ·rw [Int.toNat_of_nonneg hn] at hp; exact ⟨hn, hp.2⟩
  refine ⟨hn.1, fun x hx => ?_⟩
  rcases List.mem_append.mp hx with hx | hx
  ·have := ih.2 x hx; exact ⟨this.1, Int.le_trans this.2 (Int.le_of_lt hn.2)⟩
  ·rw [List.mem_singleton.mp hx]; exact ⟨hn.1, Int.le_refl _⟩
theorem rc (ns : List Int) : ∀ vs σ Q, sp__law_is_road ns vs σ Q → vs.length = 4 ∧ cW ns (aF ["_law_road", "_law_older", "_law_elder", "_law_number"] vs aN) σ (fin Q) := by
 rintro vs σ Q ⟨r, o, ps, e, n, row, rfl, xr, xo, ho, hR, e0, n0, n1, hlen, q⟩
 refine ⟨rfl, ?_⟩
 have few := ho.few
 have hf := hR.first
 have hpos : 0 < row.length := (List.getElem?_eq_some_iff.mp hf).1
 obtain ⟨s, hs⟩ := hR.last
 have hlow := (hR.low ho e0).2
 unfold cW
 rw [ak]
 simp [eN, n7 xr, aV xr]
 rw [if_neg (by rintro rfl; simp at hpos)]
 refine ⟨.ref r, row, rfl, .inr ⟨r, rfl, xr⟩, Nat.le_trans hlen (by decide), fun σ₁ g1 => ?_⟩
 have xr1 := g1 _ _ xr
 have xo1 := g1 _ _ xo
 simp
 rw [ak]
 simp [eM]
 refine bw xr1 (Int.le_refl 0) (v := .int e) (by rw [List.getElem?_map]; show row[0]?.map _ = _; rw [hf]; rfl) ?_
 simp
 refine iU (xs := s.map V.int) (v := .int n) (by rw [xr1, hs, List.map_append]; rfl) ?_
 simp
 rw [ak]
 simp [eK, aV xr1]
 refine ⟨by omega, ?_⟩
 refine bd (fun i m σ' => σ' = σ₁ ∧ m "_law_road" = some (.ref r) ∧ m "_law_older" = some (.ref o)) (fun _ _ _ => False)
  (fun _ _ _ _ => trivial) _ ?_ ?_ (fun _ _ _ h => h.elim) _ _ ⟨rfl, by simp, by simp⟩
 ·rintro i v m σ' Q' hv ⟨rfl, mr, mo⟩ q1 q2 q3
  obtain ⟨hi, rfl⟩ := cC hv
  refine ⟨_, rfl, ?_⟩
  have hi1 : i + 1 < row.length := by omega
  obtain ⟨x, hx⟩ : ∃ x, row[i]? = some x := ⟨_, List.getElem?_eq_getElem (Nat.lt_of_succ_lt hi1)⟩
  obtain ⟨y, hy⟩ : ∃ y, row[i + 1]? = some y := ⟨_, List.getElem?_eq_getElem hi1⟩
  obtain ⟨l, l1, l2⟩ := hR.step i x y hx hy
  have hy2 := hlow y (List.mem_of_getElem? hy)
  have hyn : y < (ps.length : Int) := Int.lt_of_le_of_lt hy2.2 n1
  have k1 : ((1 : Int) + (i : Int)).toNat = i + 1 := by omega
  have k0 : ((1 : Int) + (i : Int) - 1).toNat = i := by omega
  have itemY : ∀ {Q : V → ai → Prop}, Q (.int y) σ' → aK ns (.ref r) (.int (1 + (i : Int))) σ' Q := fun q => bw xr1 (by omega) (v := .int y) (by rw [k1, List.getElem?_map, hy]; rfl) q
  simp [ak, mr, mo]
  refine itemY ?_
  simp [aV xo1, bD, hy2.1, hyn]
  refine bw xr1 (by omega) (v := .int x) (by rw [k0, List.getElem?_map, hx]; rfl) ?_
  refine itemY ?_
  refine jH xo1 hy2.1 l1 ?_
  refine ⟨true, by rw [iw]; simpa using l2, ?_⟩
  simp
  exact q1 _ _ ⟨rfl, by simp [mr], by simp [mo]⟩
 ·rintro m σ' ⟨rfl, mr, mo⟩
  rw [aU, ak]
  simp [eJ]
  exact q _ g1
end Mine
end
noncomputable section
set_option maxHeartbeats 1000000
namespace Mine
open PySem PySem.W PyProof.Rows PySem.Calls
theorem nI {ns : List Int} {σ : ai} {Q : V → ai → Prop} {o : Addr} {ps : List (List Int)} {n : Int} (xo : σ o = some (.list (bn ps))) (ho : Ord ps) (h0 : 0 ≤ n) (h1 : n < ps.length) (q : ∀ xs, Eld ps n xs → eY (xs.map .int) σ Q) : sp__law_elders_by ns [.ref o, .int n] σ Q := ⟨o, ps, n, rfl, xo, ho, h0, h1, q⟩
theorem j6 {σ : ai} {a : Addr} {x : Int} {ys : List Int} {Q : V → ai → Prop} (h : σ a = some (.list (ys.map .int))) (q : Q (.bool (!decide (x ∈ ys))) σ) : dL (.int x) (.ref a) σ Q := ⟨_, _, h, iw x ys, q⟩
theorem u4 (ns : List Int) : ∀ vs σ Q, sp__law_nearest_holds ns vs σ Q → vs.length = 4 ∧ bQ ns (aF ["_law_book", "_law_older", "_law_one", "_law_other"] vs aN) σ (fin Q) := by
 rintro vs σ Q ⟨U, b, t, mo, ads, ts, ps, o, n, k, rfl, B, xo, h0, h1, k0, k1, q⟩
 refine ⟨rfl, ?_⟩
 have ho := B.ord
 have few := ho.few
 have h1' : n < ps.length := by rw [B.lenP]; exact h1
 have k1' : k < ps.length := by rw [B.lenP]; exact k1
 unfold bQ
 rw [ak]
 simp [cV]
 refine nI xo ho k0 k1' fun xs2 E2 a2 σ₁ g1 ha2 x2 => ?_
 rw [ak]
 simp [cU]
 refine nI (g1 _ _ xo) ho h0 h1' fun xs1 E1 a1 σ₂ g2 ha1 x1 => ?_
 have l1 := E1.len ho h0 h1'
 rw [bb x1]
 refine bK (fun s => s = σ₂) (fun s hs => by rw [hs]; exact x1) (fun v => pS v fun x => if decide (x ∈ xs2) then some v else Option.none) _ _ _ _ (by simp; omega) ?_ rfl ?_
 ·rintro v hv s Q₁ Q₂ rfl r1 r2
  obtain ⟨x, hx, rfl⟩ := List.mem_map.mp hv
  refine ⟨_, rfl, ?_⟩
  simp
  refine qE (g2 _ _ x2) ?_
  simp
  split
  ·rename_i h; exact r1 _ _ rfl (by show (if decide (x ∈ xs2) then _ else _) = _; rw [decide_eq_true h]; rfl)
  ·rename_i h; exact r2 _ rfl (by show (if decide (x ∈ xs2) then _ else _) = _; rw [decide_eq_false h]; rfl)
 rintro s rfl c hc
 rw [List.nil_append, mF (fun x => decide (x ∈ xs2))]
 have hys : ∀ x, x ∈ xs1.filter (fun x => decide (x ∈ xs2)) ↔ Anc ps n x ∧ Anc ps k x := fun x => by
  rw [List.mem_filter, decide_eq_true_iff, E1.mem, E2.mem]
 have lys : (xs1.filter fun x => decide (x ∈ xs2)).length ≤ 200 := Nat.le_trans (List.length_filter_le _ _) (Nat.le_trans l1 few)
 generalize xs1.filter (fun x => decide (x ∈ xs2)) = ys at hys lys ⊢
 have g3 : Grow σ (aZ s c (.list (ys.map V.int))) := (g1.trans g2).upd hc
 have xc := au s c (.list (ys.map V.int))
 generalize (aZ s c (.list (ys.map V.int))) = σ₃ at g3 xc ⊢
 have B3 := B.grow g3
 show an _ _ _ _ _
 rw [ak]
 simp [cT, bA B3]
 refine ⟨U, b, t, mo, ads, ts, ps, n, k, rfl, B3, h0, h1, k0, k1, fun M σ₄ g4 m1 m2 m3 => ?_⟩
 have B4 := B3.grow g4
 rw [ak]
 simp [cR, bA B4]
 refine ⟨U, b, t, mo, ads, ts, ps, k, n, rfl, B4, k0, k1, h0, h1, fun M' σ₅ g5 m4 m5 m6 => ?_⟩
 have hMM : M = M' := Int.le_antisymm (m6 M m2 m1) (m3 M' m5 m4)
 subst hMM
 have xc5 := g5 _ _ (g4 _ _ xc)
 have gall := (g3.trans g4).trans g5
 have hMin : M ∈ ys := (hys M).mpr ⟨m1, m2⟩
 have hMl := m1.le ho.lt h0
 rw [ak]
 simp [cQ]
 refine j6 xc5 ?_
 simp [hMin]
 rw [ak]
 simp [cP]
 refine ⟨o, ps, M, rfl, gall _ _ xo, ho, hMl.1, Int.lt_of_le_of_lt hMl.2 h1', fun bs hbl hbs d σ₆ g6 hd xd => ?_⟩
 have xc6 := g6 _ _ xc5
 rw [ak]
 simp [cO]
 rw [bb xc6]
 refine bK (fun s => s = σ₆) (fun s hs => by rw [hs]; exact xc6) (fun _ => Option.none) _ _ _ _ (by simp; omega) ?_ rfl ?_
 ·rintro v hv s Q₁ Q₂ rfl r1 r2
  obtain ⟨x, hx, rfl⟩ := List.mem_map.mp hv
  obtain ⟨x1, x2⟩ := (hys x).mp hx
  have hxM := m3 x x1 x2
  have hxl := x1.le ho.lt h0
  refine ⟨_, rfl, ?_⟩
  simp [Int.not_lt.mpr hxM]
  by_cases he : x = M
  ·simp [he]; exact r2 _ rfl rfl
  ·simp [he]
   refine jL xd hxl.1 (by rw [hbl]; omega) fun cc hcc => ?_
   have hcf : cc = false := by
    cases cc with
    | false => rfl
    | true =>
     have := (hbs x.toNat true hcc).mp rfl
     rw [Int.toNat_of_nonneg hxl.1] at this
     have := this.ge ho hMl.1
     exact absurd (Int.le_antisymm hxM this) he
   subst hcf
   simp
   exact r2 _ rfl rfl
 ·rintro s rfl r hr
  have e : (ys.map V.int).filterMap (fun _ => (Option.none : Option V)) = [] := by simp
  rw [List.nil_append, e, aV (au _ _ _)]
  simp
  exact q _ ((gall.trans g6).upd hr)
end Mine
end
noncomputable section
set_option maxHeartbeats 1000000
namespace Mine
open PySem PySem.W PyProof.Rows PySem.Calls
theorem Eld.nodup {ps : List (List Int)} {n : Int} {xs : List Int} (a : Eld ps n xs) : xs.Nodup := by rw [List.nodup_iff_pairwise_ne]; exact a.lt.imp fun h => Int.ne_of_lt h
theorem Eld.eq {ps : List (List Int)} {n : Int} {xs ys : List Int} (a : Eld ps n xs) (b : Eld ps n ys) : xs = ys :=
 fe ((List.perm_ext_iff_of_nodup a.nodup b.nodup).mpr fun x => (a.mem x).trans (b.mem x).symm) (a.lt.imp fun h => Int.le_of_lt h) (b.lt.imp fun h => Int.le_of_lt h)
theorem Road.anc {ps : List (List Int)} {e n : Int} {r : List Int} (h : Road ps e n r) : Anc ps n e := by
 induction h with
 | one => exact .self _
 | more _ h1 h2 ih => exact .up h1 h2 ih
theorem Road.self {ps : List (List Int)} (o : Ord ps) {n : Int} {r : List Int} (n0 : 0 ≤ n) (h : Road ps n n r) : r = [n] := by
 cases h with
 | one => rfl
 | @more _ p r l h1 h2 h3 =>
  have hp := o.lt _ _ h2 p h3
  rw [Int.toNat_of_nonneg n0] at hp
  exact absurd (h1.anc.ge o n0) (Int.not_le.mpr hp.2)
structure L3 (ps : List (List Int)) (k n m : Int) (σ : ai) (r0 r1 r2 : Addr) (e0 e1 e2 : List Int) : Prop where
 x0 : σ r0 = some (.list (e0.map .int))
 x1 : σ r1 = some (.list (e1.map .int))
 x2 : σ r2 = some (.list (e2.map .int))
 E0 : Eld ps k e0
 E1 : Eld ps n e1
 E2 : Eld ps m e2
theorem L3.keep {ps : List (List Int)} {k n m : Int} {σ σ' : ai} {r0 r1 r2 : Addr} {e0 e1 e2 : List Int} (L : L3 ps k n m σ r0 r1 r2 e0 e1 e2) (h : ∀ a ∈ [r0, r1, r2], ∀ o, σ a = some o → σ' a = some o) : L3 ps k n m σ' r0 r1 r2 e0 e1 e2 :=
 ⟨h _ (by simp) _ L.x0, h _ (by simp) _ L.x1, h _ (by simp) _ L.x2, L.E0, L.E1, L.E2⟩
theorem dH {g : Tgt} {inv : ai → Prop} {T : ET} {m₀ m' : bg} {v : V} {r acc : List V} {σ : ai} {Q : List V → ai → Prop} (hi : inv σ) (hb : fV g v m₀ = some m') (q : T m' σ fun y σ₂ => acc.length < 1048576 ∧ dn g inv tT T m₀ r (acc ++ [y]) σ₂ Q) : dn g inv tT T m₀ (v :: r) acc σ Q :=
 ⟨hi, m', hb, q⟩
theorem td {σ : ai} {ps : List (List Int)} {T : ET} {inv : ai → Prop} {m₀ : bg} {k n m : Int} {Q : List V → ai → Prop} (hinv : ∀ σ', Grow σ σ' → inv σ')
  (hT : ∀ σ', Grow σ σ' → ∀ v, (v = k ∨ v = n ∨ v = m) → ∀ Q' : V → ai → Prop, (∀ xs, Eld ps v xs → eY (xs.map .int) σ' Q') → T (put m₀ "_law_each" (.int v)) σ' Q')
  (q : ∀ r0 r1 r2 e0 e1 e2 σ', Grow σ σ' → σ r0 = Option.none → σ r1 = Option.none → σ r2 = Option.none → r0 ≠ r1 → r0 ≠ r2 → r1 ≠ r2 → L3 ps k n m σ' r0 r1 r2 e0 e1 e2 → Q [.ref r0, .ref r1, .ref r2] σ') :
  dn (.name "_law_each") inv tT T m₀ [.int k, .int n, .int m] [] σ Q := by
 refine dH (hinv _ Grow.refl) rfl ?_
 refine hT _ Grow.refl k (.inl rfl) _ fun e0 E0 r0 σ₁ g1 h0 x0 => ⟨Nat.succ_pos _, dH (hinv _ g1) rfl ?_⟩
 refine hT _ g1 n (.inr (.inl rfl)) _ fun e1 E1 r1 σ₂ g2 h1 x1 => ⟨by show 1 < 1048576; decide, dH (hinv _ (g1.trans g2)) rfl ?_⟩
 have g12 := g1.trans g2
 refine hT _ g12 m (.inr (.inr rfl)) _ fun e2 E2 r2 σ₃ g3 h2 x2 => ⟨by show 2 < 1048576; decide, hinv _ (g12.trans g3), ?_⟩
 exact q r0 r1 r2 e0 e1 e2 σ₃ (g12.trans g3) h0 (g1.none h1) (g12.none h2) (by rintro rfl; rw [x0] at h1; cases h1) (by rintro rfl; rw [g2 _ _ x0] at h2; cases h2) (by rintro rfl; rw [x1] at h2; cases h2)
  ⟨g3 _ _ (g2 _ _ x0), g3 _ _ x1, x2, E0, E1, E2⟩
structure Hs (ps : List (List Int)) (k n m : Int) (σ : ai) (nl tl rl al p1 p2 s0 s1 s2 : Addr) (th row1 e0 e1 e2 : List Int) (v0 : V) : Prop where
 num : σ nl = some (.list [.int k, .int n, .int m])
 the : σ tl = some (.list (th.map .int))
 rds : σ rl = some (.list [v0, .ref p1, .ref p2])
 ro1 : σ p1 = some (.list (row1.map .int))
 ro2 : σ p2 = some (.list [.int m])
 aga : σ al = some (.list [.ref s0, .ref s1, .ref s2])
 S : L3 ps k n m σ s0 s1 s2 e0 e1 e2
theorem Hs.keep {ps : List (List Int)} {k n m : Int} {σ σ' : ai} {nl tl rl al p1 p2 s0 s1 s2 : Addr} {th row1 e0 e1 e2 : List Int} {v0 : V} (H : Hs ps k n m σ nl tl rl al p1 p2 s0 s1 s2 th row1 e0 e1 e2 v0)
  (h : ∀ a ∈ [nl, tl, rl, al, p1, p2, s0, s1, s2], ∀ o, σ a = some o → σ' a = some o) : Hs ps k n m σ' nl tl rl al p1 p2 s0 s1 s2 th row1 e0 e1 e2 v0 :=
 ⟨h _ (by simp) _ H.num, h _ (by simp) _ H.the, h _ (by simp) _ H.rds, h _ (by simp) _ H.ro1, h _ (by simp) _ H.ro2, h _ (by simp) _ H.aga, H.S.keep fun a ha => h a (by simp at ha ⊢; rcases ha with rfl | rfl | rfl <;> simp)⟩
theorem rz {ns : List Int} {U : List (Str × V)} {σ σ' : ai} {b t mo o : Addr} {ads : List Addr} {ts : List (List (Str × V))} {ps : List (List Int)} {Q : V → ai → Prop} {k n m nr : Int} {nl tl rl al p1 p2 s0 s1 s2 : Addr} {th row1 e0 e1 e2 : List Int} {v0 : V} {m₀ : bg}
  (B : BookAt U σ b t mo ads ts ps) (xo : σ o = some (.list (bn ps))) (n0 : 0 ≤ n) (n1 : n < ts.length) (m0 : 0 ≤ m) (m1 : m < ts.length) (k0 : 0 ≤ k) (k1 : k < ts.length) (g : Grow σ σ') (H : Hs ps k n m σ' nl tl rl al p1 p2 s0 s1 s2 th row1 e0 e1 e2 v0)
  (Et : Eld ps m th) (R1 : Road ps nr m row1) (l1 : row1.length ≤ 200) (nr0 : 0 ≤ nr)
  (hv : (v0 = .none ∧ ¬ Anc ps m n) ∨ ∃ p0 row0, v0 = .ref p0 ∧ σ' p0 = some (.list (List.map V.int row0)) ∧ Road ps n m row0 ∧ row0.length ≤ 200 ∧ σ p0 = Option.none ∧ p0 ≠ rl ∧ p0 ≠ p1)
  (za : m₀ "_law_again" = some (.ref al)) (zr : m₀ "_law_roads" = some (.ref rl)) (zo : m₀ "_law_older" = some (.ref o)) (zn : m₀ "_law_numbers" = some (.ref nl)) (znr : m₀ "_law_near" = some (.int nr)) (z1 : m₀ "_law_one" = some (.int n)) (z2 : m₀ "_law_other" = some (.int m)) (zt : m₀ "_law_theirs" = some (.ref tl)) (zb : m₀ "_law_book" = some (.ref b))
  (q : ∀ σ', Grow σ σ' → Q (.bool true) σ') :
  an (cY ns) (an (cX ns) (an (cw ns) (an (cv ns) (an (cu ns) (an (ct ns) aw))))) m₀ σ' (fin Q) := by
 have ho := B.ord
 have few := ho.few
 have tn : ∀ {x : Int}, x < ts.length → x < ps.length := fun h => by rw [B.lenP]; exact h
 rw [ak]
 simp [cY, za, zr, zo, zn, z2]
 rw [bb H.num]
 refine td (ps := ps) (fun s gs => gs _ _ H.num) (fun s gs v hv Q' q' => ?_) fun r0 r1 r2 f0 f1 f2 σ₁ g1 h0 h1 h2 d01 d02 d12 L => ?_
 ·have hb : 0 ≤ v ∧ v < ts.length := by rcases hv with rfl | rfl | rfl <;> exact ⟨by assumption, by assumption⟩
  simp [zo]
  exact nI (gs _ _ (g _ _ xo)) ho hb.1 (tn hb.2) q'
 intro c hc
 have H1 : Hs ps k n m σ₁ nl tl rl al p1 p2 s0 s1 s2 th row1 e0 e1 e2 v0 := H.keep fun a _ o e => g1 _ _ e
 have g2 : Grow σ₁ (aZ σ₁ c (.list [.ref r0, .ref r1, .ref r2])) := Grow.refl.upd hc
 have xc := au σ₁ c (.list [.ref r0, .ref r1, .ref r2])
 generalize (aZ σ₁ c (.list [.ref r0, .ref r1, .ref r2])) = σ₂ at g2 xc ⊢
 have H2 : Hs ps k n m σ₂ nl tl rl al p1 p2 s0 s1 s2 th row1 e0 e1 e2 v0 := H1.keep fun a _ o e => g2 _ _ e
 have L2 : L3 ps k n m σ₂ r0 r1 r2 f0 f1 f2 := L.keep fun a _ o e => g2 _ _ e
 have q1 := H2.S.E0.eq L2.E0
 have q2 := H2.S.E1.eq L2.E1
 have q3 := H2.S.E2.eq L2.E2
 subst q1 q2 q3
 refine ⟨.inr (.inl ⟨al, c, _, _, rfl, rfl, H2.aga, xc, .cons (gi H2.S.x0 L2.x0) (.cons (gi H2.S.x1 L2.x1) (.cons (gi H2.S.x2 L2.x2) .nil))⟩), ?_⟩
 try simp [zr]
 refine bw H2.rds (by decide) (v := .ref p2) rfl ?_
 try simp [z2]
 intro d hd
 have g3 : Grow σ₂ (aZ σ₂ d (.list [.int m])) := Grow.refl.upd hd
 have xd := au σ₂ d (.list [.int m])
 generalize (aZ σ₂ d (.list [.int m])) = σ₃ at g3 xd ⊢
 have H3 : Hs ps k n m σ₃ nl tl rl al p1 p2 s0 s1 s2 th row1 e0 e1 e2 v0 := H2.keep fun a _ o e => g3 _ _ e
 refine nY (xs := [m]) H3.ro2 xd ?_
 have gA : Grow σ' σ₃ := (g1.trans g2).trans g3
 have gall : Grow σ σ₃ := g.trans gA
 simp
 rw [ak]
 simp [cX, zr, zo, znr, z2]
 refine bw H3.rds (by decide) (v := .ref p1) rfl ?_
 refine ⟨p1, o, ps, nr, m, row1, rfl, H3.ro1, gall _ _ xo, ho, R1, nr0, m0, tn m1, l1, fun σ₄ g4 => ?_⟩
 have H4 : Hs ps k n m σ₄ nl tl rl al p1 p2 s0 s1 s2 th row1 e0 e1 e2 v0 := H3.keep fun a _ o e => g4 _ _ e
 have gall4 := gall.trans g4
 simp
 rw [ak]
 simp [cw, z1, zt, zr]
 refine j6 H4.the ?_
 rcases hv with ⟨rfl, hA⟩ | ⟨p0, row0, rfl, xp0, R0, l0, hp0, hpr, hpp⟩
 ·have : n ∉ th := fun h => hA ((Et.mem n).mp h)
  simp [this, ak, zr]
  refine bw H4.rds (by decide) (v := .none) rfl ?_
  simp [lh]
  exact q _ gall4
 ·have : n ∈ th := (Et.mem n).mpr R0.anc
  simp [this]
  rw [ak]
  simp [cv, zr, zo, z1, z2]
  refine bw H4.rds (by decide) (v := .ref p0) rfl ?_
  refine ⟨p0, o, ps, n, m, row0, rfl, g4 _ _ (gA _ _ xp0), gall4 _ _ xo, ho, R0, n0, m0, tn m1, l0, fun σ₅ g5 => ?_⟩
  have H5 : Hs ps k n m σ₅ nl tl rl al p1 p2 s0 s1 s2 th row1 e0 e1 e2 (.ref p0) := H4.keep fun a _ o e => g5 _ _ e
  have xp5 := g5 _ _ (g4 _ _ (gA _ _ xp0))
  have gall5 := gall4.trans g5
  simp
  rw [ak]
  simp [cu, zr]
  refine bw H5.rds (by decide) (v := .ref p0) rfl ?_
  refine ⟨by rw [bZ xp5]; trivial, kG xp5 ?_⟩
  have gall6 : Grow σ (aZ σ₅ p0 (.list [])) := gall5.over hp0
  have y1 : aZ σ₅ p0 (.list []) p1 = some (.list (row1.map .int)) := by rw [aC hpp.symm]; exact H5.ro1
  have y2 : aZ σ₅ p0 (.list []) rl = some (.list [.ref p0, .ref p1, .ref p2]) := by rw [aC hpr.symm]; exact H5.rds
  generalize (aZ σ₅ p0 (.list [])) = σ₆ at gall6 y1 y2 ⊢
  have B6 := B.grow gall6
  rw [ak]
  simp [ct, zb, zo, z1, z2, zr, znr, bA B6]
  refine ⟨U, b, t, mo, ads, ts, ps, n, m, rfl, B6, n0, n1, m0, m1, fun h => absurd R0.anc h, fun r Rr lr a σ₇ g7 ha xa => ?_⟩
  have gall7 := gall6.trans g7
  refine ⟨a, o, ps, n, m, r, rfl, xa, gall7 _ _ xo, ho, Rr, n0, m0, tn m1, lr, fun σ₈ g8 => ?_⟩
  simp
  refine bw (g8 _ _ (g7 _ _ y2)) (by decide) (v := .ref p1) rfl ?_
  refine ⟨p1, o, ps, nr, m, row1, rfl, g8 _ _ (g7 _ _ y1), g8 _ _ (gall7 _ _ xo), ho, R1, nr0, m0, tn m1, l1, fun σ₉ g9 => ?_⟩
  exact q _ ((gall7.trans g8).trans g9)
end Mine
end
noncomputable section
set_option maxHeartbeats 1000000
namespace Mine
open PySem PySem.W PyProof.Rows PySem.Calls
theorem mq {α : Type} {f : α → V} {xs : List α} {i : Nat} {x : α} {σ : ai} {a : Addr} {ns : List Int} {Q : V → ai → Prop} (h : σ a = some (.list (xs.map f))) (hx : xs[i]? = some x) (q : Q (f x) σ) : aK ns (.ref a) (.int (0 + (i : Int))) σ Q :=
 bw h (by omega) (by rw [List.getElem?_map, show ((0 : Int) + (i : Int)).toNat = i by omega, hx]; rfl) q
theorem kh {ns : List Int} {σ' : ai} {o nl wl al r s : Addr} {ps : List (List Int)} {N : List Int} {W S : List Addr} {i : Nat} {v : Int} {e : List Int} {m₀ : bg} {Q' : Fl → bg → ai → Prop} (hN : N[i]? = some v) (hW : W[i]? = some r) (hS : S[i]? = some s)
  (xn : σ' nl = some (.list (N.map V.int))) (xw : σ' wl = some (.list (W.map V.ref))) (xa : σ' al = some (.list (S.map V.ref))) (xr : σ' r = some (.list (e.map .int))) (xs : σ' s = some (.list (e.map .int))) (E : Eld ps v e) (xo : σ' o = some (.list (bn ps))) (ho : Ord ps) (v0 : 0 ≤ v) (v1 : v < ps.length)
  (zn : m₀ "_law_numbers" = some (.ref nl)) (zw : m₀ "_law_rows" = some (.ref wl)) (za : m₀ "_law_again" = some (.ref al)) (zo : m₀ "_law_older" = some (.ref o)) (zk : m₀ "_law_k" = some (.int (0 + (i : Int))))
  (q : ∀ m' σ'', (∀ z, z ≠ r → ∀ o, σ' z = some o → σ'' z = some o) → (∀ y, y ≠ "_law_due" → y ≠ "_law_row" → m' y = m₀ y) → Q' .next m' σ'') :
  (an (bi "_law_due" (az (sp__law_elders_by ns) (ah (ae "_law_older") (ah (aB (aK ns) (ae "_law_numbers") (ae "_law_k")) av))))
   (an (ch (.name "_law_row") (fR ns (cq (ah (aB (aK ns) (ae "_law_rows") (ae "_law_k")) (ah (aB (aK ns) (ae "_law_again") (ae "_law_k")) av)))) (an (dz (gg (dq (aH (az cn (ah (ae "_law_row") (ah (aE (.ty "list")) av))))) (gg (dq (aH (az (sp__law_are_whole ns) (ah (ae "_law_row") av)))) (gg (aH (aB jc (ae "_law_row") (ae "_law_due"))) tF))) (an (bC (aE (.bool false))) aw) aw) aw))
   (an (bO (br bN gh (aB (aK ns) (ae "_law_rows") (ae "_law_k")) av)) aw))) m₀ σ' Q' := by
 rw [ak]
 simp [zo, zn, zk]
 rw [show (i : Int) = 0 + (i : Int) by omega]
 refine mq xn hN ?_
 refine nI xo ho v0 v1 fun e' E' d σ₁ g1 hd xd => ?_
 have he := E'.eq E
 subst he
 have el := E.len ho v0 v1
 have few := ho.few
 rw [ak]
 simp [zw, za, zk]
 rw [show (i : Int) = 0 + (i : Int) by omega]
 refine mq (g1 _ _ xw) hW ?_
 refine mq (g1 _ _ xa) hS ?_
 intro l hl
 have g2 : Grow σ₁ (aZ σ₁ l (.list [.ref r, .ref s])) := Grow.refl.upd hl
 have xl := au σ₁ l (.list [.ref r, .ref s])
 generalize (aZ σ₁ l (.list [.ref r, .ref s])) = σ₂ at g2 xl ⊢
 rw [bb xl]
 have g12 := g1.trans g2
 refine bd (fun j m σ₃ => Grow σ₂ σ₃ ∧ m "_law_due" = some (.ref d) ∧ (∀ y, y ≠ "_law_due" → y ≠ "_law_row" → m y = m₀ y)) (fun _ _ _ => False) (fun j m σ₃ h => h.1 _ _ xl) _ ?_ ?_ (fun _ _ _ h => h.elim) _ _ ⟨Grow.refl, by simp, fun y h1 h2 => by simp [h1]⟩
 ·rintro j u m σ₃ Q'' hu ⟨g3, md, mm⟩ q1 q2 q3
  obtain ⟨z, rfl, hz⟩ : ∃ z, u = .ref z ∧ σ' z = some (.list (e'.map .int)) := by
   match j, hu with
   | 0, hu => simp at hu; exact ⟨r, hu.symm, xr⟩
   | 1, hu => simp at hu; exact ⟨s, hu.symm, xs⟩
   | n + 2, hu => simp at hu
  have g13 := g12.trans g3
  have xz := g13 _ _ hz
  refine ⟨_, rfl, ?_⟩
  rw [ak]
  simp [n7 xz]
  refine ⟨.ref z, e', rfl, .inr ⟨z, rfl, xz⟩, by omega, fun σ₄ g4 => ?_⟩
  simp [md]
  refine nY (g4 _ _ xz) (g4 _ _ (g3 _ _ (g2 _ _ xd))) ?_
  simp
  exact q1 _ _ ⟨g3.trans g4, by simp [md], fun y h1 h2 => by simp [h2, mm y h1 h2]⟩
 ·rintro m σ₃ ⟨g3, md, mm⟩
  have g13 := g12.trans g3
  rw [aU, ak]
  simp [mm "_law_rows" (by decide) (by decide), mm "_law_k" (by decide) (by decide), zw, zk]
  rw [show (i : Int) = 0 + (i : Int) by omega]
  refine mq (g13 _ _ xw) hW ?_
  have xr3 := g13 _ _ xr
  refine ⟨by rw [bZ xr3]; trivial, kG xr3 ?_⟩
  exact q _ _ (fun z hz o e => by rw [aC hz]; exact g13 _ _ e) mm
end Mine
end
noncomputable section
set_option maxHeartbeats 2000000
namespace Mine
open PySem PySem.W PyProof.Rows PySem.Calls
theorem l8 {ns : List Int} {U : List (Str × V)} {σ : ai} {b t mo : Addr} {ads : List Addr} {ts : List (List (Str × V))} {ps : List (List Int)} {Q : V → ai → Prop} {e n : Int} (B : BookAt U σ b t mo ads ts ps) (e0 : 0 ≤ e) (e1 : e < ts.length) (n0 : 0 ≤ n) (n1 : n < ts.length) (qn : ¬ Anc ps n e → ∀ σ', Grow σ σ' → Q .none σ') (qr : ∀ r, Road ps e n r → r.length ≤ 200 → eY (r.map .int) σ Q) : sp_road ns [.ref b, .int e, .int n] σ Q :=
 ⟨U, b, t, mo, ads, ts, ps, e, n, rfl, B, e0, e1, n0, n1, qn, qr⟩
theorem tR (ns : List Int) : ∀ vs σ Q, sp__law_holds ns vs σ Q → vs.length = 5 ∧ dC ns (aF ["_law_book", "_law_older", "_law_number", "_law_one", "_law_other"] vs aN) σ (fin Q) := by
 rintro vs σ Q ⟨U, b, t, mo, ads, ts, ps, o, n, m, k, rfl, B, xo, n0, n1, m0, m1, k0, k1, q⟩
 refine ⟨rfl, ?_⟩
 have ho := B.ord
 have few := ho.few
 have tn : ∀ {x : Int}, x < ts.length → x < ps.length := fun h => by rw [B.lenP]; exact h
 unfold dC
 rw [ak]
 simp [ga]
 intro nl hnl
 have g1 : Grow σ (aZ σ nl (.list [.int k, .int n, .int m])) := Grow.refl.upd hnl
 have xn := au σ nl (.list [.int k, .int n, .int m])
 generalize (aZ σ nl (.list [.int k, .int n, .int m])) = σ₁ at g1 xn ⊢
 rw [ak]
 simp [f9]
 refine nI (g1 _ _ xo) ho m0 (tn m1) fun th Et tl σ₂ g2 htl xt => ?_
 have g12 := g1.trans g2
 have hmt : m ∈ th := (Et.mem m).mpr (.self _)
 have hpos : 0 < th.length := List.length_pos_of_mem hmt
 rw [ak]
 simp [f8, aV xt]
 refine ⟨hpos, ?_⟩
 have i0 := Int.emod_nonneg (k + n) (b := (th.length : Int)) (by omega)
 have i1 := Int.emod_lt_of_pos (k + n) (b := (th.length : Int)) (by omega)
 generalize (k + n) % (th.length : Int) = ix at i0 i1 ⊢
 have hix : ix.toNat < th.length := ei i0 i1
 obtain ⟨nr, hnr⟩ : ∃ nr, th[ix.toNat]? = some nr := ⟨_, List.getElem?_eq_getElem hix⟩
 have aNr : Anc ps m nr := (Et.mem nr).mp (List.mem_of_getElem? hnr)
 have nrl := aNr.le ho.lt m0
 have nr1 : nr < ts.length := Int.lt_of_le_of_lt nrl.2 m1
 refine bw xt i0 (v := .int nr) (by rw [List.getElem?_map, hnr]; rfl) ?_
 rw [ak]
 simp [f7]
 rw [bb (g2 _ _ xn)]
 refine td (ps := ps) (fun s gs => gs _ _ (g2 _ _ xn)) (fun s gs v hv Q' q' => ?_) fun r0 r1 r2 e0 e1 e2 σ₃ g3 hr0 hr1 hr2 d01 d02 d12 L => ?_
 ·have hb : 0 ≤ v ∧ v < ts.length := by rcases hv with rfl | rfl | rfl <;> exact ⟨by assumption, by assumption⟩
  have Bs := B.grow (g12.trans gs)
  simp [bA Bs]
  exact mM Bs hb.1 hb.2 q'
 intro wl hwl
 have g13 := g12.trans g3
 have g4 : Grow σ₃ (aZ σ₃ wl (.list [.ref r0, .ref r1, .ref r2])) := Grow.refl.upd hwl
 have xw := au σ₃ wl (.list [.ref r0, .ref r1, .ref r2])
 generalize (aZ σ₃ wl (.list [.ref r0, .ref r1, .ref r2])) = σ₄ at g4 xw ⊢
 have g14 := g13.trans g4
 have L4 : L3 ps k n m σ₄ r0 r1 r2 e0 e1 e2 := L.keep fun a _ o e => g4 _ _ e
 have old : ∀ {r z : Addr} {x : AObj}, σ₂ r = Option.none → σ₂ z = some x → r ≠ z := fun {r z x} h1 h2 => by rintro rfl; rw [h1] at h2; cases h2
 have new : ∀ {r z : Addr} {x : AObj} {s : ai}, s r = some x → s z = Option.none → r ≠ z := fun {r z x s} h1 h2 => by rintro rfl; rw [h1] at h2; cases h2
 have B4 := B.grow g14
 show an _ _ _ _ _
 rw [ak]
 have rest : ∀ (v0 : V) (σ₅ : ai), Grow σ₄ σ₅ → ((v0 = .none ∧ ¬ Anc ps m n) ∨ ∃ p0 row0, v0 = .ref p0 ∧ σ₅ p0 = some (.list (List.map V.int row0)) ∧ Road ps n m row0 ∧ row0.length ≤ 200 ∧ σ₄ p0 = Option.none) →
   sp_road ns [.ref b, .int nr, .int m] σ₅ fun v1 σ₆ => pR "road" (.ref b) σ₆ ∧ sp_road ns [.ref b, .int m, .int m] σ₆ fun v2 σ₇ => dc [v0, v1, v2] σ₇ fun v σ₈ =>
    an (dS ns) (an (dQ ns) (an (cY ns) (an (cX ns) (an (cw ns) (an (cv ns) (an (cu ns) (an (ct ns) aw)))))))
     (put (put (put (put (put (put (put (put (put (put aN "_law_book" (.ref b)) "_law_older" (.ref o)) "_law_number" (.int k)) "_law_one" (.int n)) "_law_other" (.int m)) "_law_numbers" (.ref nl)) "_law_theirs" (.ref tl)) "_law_near" (.int nr)) "_law_rows" (.ref wl)) "_law_roads" v) σ₈ (fin Q) := by
  intro v0 σ₅ g5 hv
  have g15 := g14.trans g5
  refine l8 (B.grow g15) nrl.1 nr1 m0 m1 (fun h => absurd aNr h) fun row1 R1 l1 p1 σ₆ g6 hp1 x1 => ?_
  have g16 := g15.trans g6
  refine ⟨by rw [bA (B.grow g16) rfl rfl]; trivial, ?_⟩
  refine l8 (B.grow g16) m0 m1 m0 m1 (fun h => absurd (.self m) h) fun row2 R2 l2 p2 σ₇ g7 hp2 x2 => ?_
  have hrow2 := R2.self ho m0
  subst hrow2
  have g17 := g16.trans g7
  intro rl hrl
  have g8 : Grow σ₇ (aZ σ₇ rl (.list [v0, .ref p1, .ref p2])) := Grow.refl.upd hrl
  have xrl := au σ₇ rl (.list [v0, .ref p1, .ref p2])
  generalize (aZ σ₇ rl (.list [v0, .ref p1, .ref p2])) = σ₈ at g8 xrl ⊢
  have g18 := g17.trans g8
  rw [ak]
  have xn8 : σ₈ nl = some (.list [.int k, .int n, .int m]) := g8 _ _ (g7 _ _ (g6 _ _ (g5 _ _ (g4 _ _ (g3 _ _ (g2 _ _ xn))))))
  simp [dS]
  rw [bb xn8]
  refine td (ps := ps) (fun s gs => gs _ _ xn8) (fun s gs v hv Q' q' => ?_) fun s0 s1 s2 f0 f1 f2 σ₉ g9 hs0 hs1 hs2 c01 c02 c12 S => ?_
  ·have hb : 0 ≤ v ∧ v < ts.length := by rcases hv with rfl | rfl | rfl <;> exact ⟨by assumption, by assumption⟩
   have Bs := B.grow (g18.trans gs)
   simp [bA Bs]
   exact mM Bs hb.1 hb.2 q'
  intro al hal
  have g10 : Grow σ₉ (aZ σ₉ al (.list [.ref s0, .ref s1, .ref s2])) := Grow.refl.upd hal
  have xal := au σ₉ al (.list [.ref s0, .ref s1, .ref s2])
  generalize (aZ σ₉ al (.list [.ref s0, .ref s1, .ref s2])) = τ at g10 xal ⊢
  have g48 : Grow σ₄ σ₈ := ((g5.trans g6).trans g7).trans g8
  have g8t : Grow σ₈ τ := g9.trans g10
  have g4t : Grow σ₄ τ := g48.trans g8t
  have gt : Grow σ τ := g14.trans g4t
  have b0 := L.E0.eq S.E0
  have b1 := L.E1.eq S.E1
  have b2 := L.E2.eq S.E2
  subst b0 b1 b2
  have H : Hs ps k n m τ nl tl rl al p1 p2 s0 s1 s2 th row1 e0 e1 e2 v0 := ⟨g8t _ _ xn8, g4t _ _ (g4 _ _ (g3 _ _ xt)), g8t _ _ xrl, g8t _ _ (g8 _ _ (g7 _ _ x1)), g8t _ _ (g8 _ _ x2), xal, S.keep fun a _ o e => g10 _ _ e⟩
  have Lt : L3 ps k n m τ r0 r1 r2 e0 e1 e2 := L4.keep fun a _ o e => g4t _ _ e
  have apart : ∀ r, σ₂ r = Option.none → (∃ x, σ₃ r = some x) → r ∉ [nl, tl, rl, al, p1, p2, s0, s1, s2] ∧ r ≠ wl := by
   rintro r hr ⟨x, hx⟩
   have hx4 := g4 _ _ hx
   have hx8 := g48 _ _ hx4
   refine ⟨?_, new hx hwl⟩
   simp only [List.mem_cons, List.not_mem_nil, or_false, not_or]
   exact ⟨old hr (g2 _ _ xn), old hr xt, new (g7 _ _ (g6 _ _ (g5 _ _ hx4))) hrl, new (g9 _ _ hx8) hal, new (g5 _ _ hx4) hp1, new (g6 _ _ (g5 _ _ hx4)) hp2, new hx8 hs0, new hx8 hs1, new hx8 hs2⟩
  have hv' : (v0 = .none ∧ ¬ Anc ps m n) ∨ ∃ p0 row0, v0 = .ref p0 ∧ τ p0 = some (.list (List.map V.int row0)) ∧ Road ps n m row0 ∧ row0.length ≤ 200 ∧ σ p0 = Option.none ∧ p0 ≠ rl ∧ p0 ≠ p1 ∧ p0 ≠ r0 ∧ p0 ≠ r1 ∧ p0 ≠ r2 := by
   rcases hv with h | ⟨p0, row0, rfl, y1, y2, y3, y4⟩
   ·exact .inl h
   ·exact .inr ⟨p0, row0, rfl, g8t _ _ (g8 _ _ (g7 _ _ (g6 _ _ y1))), y2, y3, g14.none y4, new (g7 _ _ (g6 _ _ y1)) hrl, new y1 hp1, fun e => new L4.x0 y4 e.symm, fun e => new L4.x1 y4 e.symm, fun e => new L4.x2 y4 e.symm⟩
  show an _ _ _ _ _
  rw [ak]
  simp [dQ]
  have xw' : τ wl = some (.list ([r0, r1, r2].map V.ref)) := g4t _ _ xw
  obtain ⟨a0, w0⟩ := apart r0 hr0 ⟨_, L.x0⟩
  obtain ⟨a1, w1⟩ := apart r1 hr1 ⟨_, L.x1⟩
  obtain ⟨a2, w2⟩ := apart r2 hr2 ⟨_, L.x2⟩
  have oz : ∀ r, σ₂ r = Option.none → o ≠ r := fun r hr => fun e => old hr (g12 _ _ xo) e.symm
  have kp : ∀ {s s' : ai} {r : Addr}, (∀ z, z ≠ r → ∀ x, s z = some x → s' z = some x) → r ∉ [nl, tl, rl, al, p1, p2, s0, s1, s2] → ∀ a ∈ [nl, tl, rl, al, p1, p2, s0, s1, s2], ∀ x, s a = some x → s' a = some x := fun h hr a ha x e => h a (fun z => hr (z ▸ ha)) x e
  have gk : ∀ {s s' : ai} {r : Addr}, Grow σ s → σ r = Option.none → (∀ z, z ≠ r → ∀ x, s z = some x → s' z = some x) → Grow σ s' := fun {s s' r} g hr h z x e => h z (by rintro rfl; rw [hr] at e; cases e) x (g z x e)
  have r0n := g12.none hr0
  have r1n := g12.none hr1
  have r2n := g12.none hr2
  refine ⟨trivial, _, rfl, ?_⟩
  refine kh (i := 0) (N := [k, n, m]) (W := [r0, r1, r2]) (S := [s0, s1, s2]) (ps := ps) (e := e0) rfl rfl rfl H.num xw' H.aga Lt.x0 H.S.x0 Lt.E0 (gt _ _ xo) ho k0 (tn k1) (by simp) (by simp) (by simp) (by simp) (by simp) fun mA τ1 kA oA => ?_
  have HA := H.keep (kp kA a0)
  have gA := gk gt r0n kA
  have wA := kA wl w0.symm _ xw'
  refine ⟨trivial, _, rfl, ?_⟩
  refine kh (i := 1) (N := [k, n, m]) (W := [r0, r1, r2]) (S := [s0, s1, s2]) (ps := ps) (e := e1) rfl rfl rfl HA.num wA HA.aga (kA r1 d01.symm _ Lt.x1) HA.S.x1 Lt.E1 (gA _ _ xo) ho n0 (tn n1) (by simp [oA]) (by simp [oA]) (by simp [oA]) (by simp [oA]) (by simp) fun mB τ2 kB oB => ?_
  have HB := HA.keep (kp kB a1)
  have gB := gk gA r1n kB
  have wB := kB wl w1.symm _ wA
  refine ⟨trivial, _, rfl, ?_⟩
  refine kh (i := 2) (N := [k, n, m]) (W := [r0, r1, r2]) (S := [s0, s1, s2]) (ps := ps) (e := e2) rfl rfl rfl HB.num wB HB.aga (kB r2 d12.symm _ (kA r2 d02.symm _ Lt.x2)) HB.S.x2 Lt.E2 (gB _ _ xo) ho m0 (tn m1) (by simp [oB, oA]) (by simp [oB, oA]) (by simp [oB, oA]) (by simp [oB, oA]) (by simp) fun mC τ3 kC oC => ?_
  have HC := HB.keep (kp kC a2)
  have gC := gk gB r2n kC
  refine ⟨trivial, ?_⟩
  rw [aU]
  refine rz B xo n0 n1 m0 m1 k0 k1 gC HC Et R1 l1 nrl.1 ?_ (by simp [oC, oB, oA]) (by simp [oC, oB, oA]) (by simp [oC, oB, oA]) (by simp [oC, oB, oA]) (by simp [oC, oB, oA]) (by simp [oC, oB, oA]) (by simp [oC, oB, oA]) (by simp [oC, oB, oA]) (by simp [oC, oB, oA]) q
  rcases hv' with h | ⟨p0, row0, rfl, y1, y2, y3, y4, y5, y6, y7, y8, y9⟩
  ·exact .inl h
  ·exact .inr ⟨p0, row0, rfl, kC p0 y9 _ (kB p0 y8 _ (kA p0 y7 _ y1)), y2, y3, y4, y5, y6⟩
 simp [f6, bA B4]
 refine l8 B4 n0 n1 m0 m1 (fun h σ₅ g5 => ?_) fun row0 R0 l0 p0 σ₅ g5 hp0 x0 => ?_
 ·refine ⟨by rw [bA (B4.grow g5) rfl rfl]; trivial, ?_⟩
  exact rest _ σ₅ g5 (.inl ⟨rfl, h⟩)
 ·refine ⟨by rw [bA (B4.grow g5) rfl rfl]; trivial, ?_⟩
  exact rest _ σ₅ g5 (.inr ⟨p0, row0, rfl, x0, R0, l0, hp0⟩)
theorem tS (ns : List Int) : ∀ vs σ Q, sp__law_asked ns vs σ Q → vs.length = 3 ∧ dD ns (aF ["_law_book", "_law_older", "_law_asked_here"] vs aN) σ (fin Q) := by
 rintro vs σ Q ⟨U, b, t, mo, ads, ts, ps, o, a, n, m, k, rfl, B, xo, xa, n0, n1, m0, m1, k0, k1, q⟩
 refine ⟨rfl, ?_⟩
 unfold dD
 rw [ak]
 simp [gc]
 refine ⟨_, xa, rfl, ?_⟩
 rw [ak]
 simp [gb]
 refine ⟨U, b, t, mo, ads, ts, ps, o, n, m, rfl, B, xo, n0, n1, m0, m1, fun σ₁ g1 => ?_⟩
 simp
 exact ⟨U, b, t, mo, ads, ts, ps, o, n, m, k, rfl, B.grow g1, g1 _ _ xo, n0, n1, m0, m1, k0, k1, fun σ₂ g2 => q _ (g1.trans g2)⟩
end Mine
end
noncomputable section
set_option maxHeartbeats 2000000
namespace Mine
open PySem PySem.W PyProof.Rows PySem.Calls
noncomputable def vd (x : Str) : Nat := (cl x).tail.foldl (fun a c => a * 10 + (c - 48)) 0
noncomputable def tE (c : Nat) : Bool := c == 118 || (Nat.ble 48 c && Nat.ble c 57)
theorem rU : ∀ k : Nat, k < 200 → (cl (vk k)).all tE = true ∧ Nat.ble (cl (vk k)).length 12 = true ∧ Nat.ble 1 (cl (vk k)).length = true ∧ vd (vk k) = k := by decide +kernel
theorem tD : ∀ c : Nat, c < 128 → tE c = true → Txt.contains yt ⟨#[c]⟩ = true := by decide +kernel
theorem hY (k : Nat) (hk : k < 200) : 47 ∉ cl (vk k) ∧ (vk k).length ≤ 12 ∧ db (vk k) = true ∧ vd (vk k) = k := by
 obtain ⟨h1, h2, h3, h4⟩ := rU k hk
 have ha : ∀ c ∈ cl (vk k), tE c = true := List.all_eq_true.mp h1
 have n47 : 47 ∉ cl (vk k) := fun h => absurd (ha _ h) (by decide)
 have n46 : ∀ {s : String}, 46 ∈ cl (Str.ofString s) → vk k ≠ Str.ofString s := fun hm e => absurd (ha 46 (by rw [e]; exact hm)) (by decide)
 have l2 : (vk k).length ≤ 12 := by rw [gX]; exact Nat.le_of_ble_eq_true h2
 refine ⟨n47, l2, ?_, h4⟩
 unfold db
 rw [lk n47]
 have hp : ds (vk k) = true := by
  unfold ds
  rw [decide_eq_true ⟨n46 (by decide +kernel), n46 (by decide +kernel), by rw [gX]; exact Nat.le_of_ble_eq_true h3, l2⟩, Bool.true_and, List.all_eq_true]
  intro c hc
  refine tD c ?_ (ha c hc)
  have := ha c hc
  unfold tE at this
  rcases Bool.or_eq_true_iff.mp this with h | h
  ·rw [eq_of_beq h]; decide
  ·exact Nat.lt_of_le_of_lt (Nat.le_of_ble_eq_true (Bool.and_eq_true_iff.mp h).2) (by decide)
 simp [hp]
theorem Vs.len {n : Nat} {U : List (Str × V)} (h : Vs n U) : U.length ≤ n := by
 have := eB (m := (List.range n).map vk) h.nodup fun x hx => by
  obtain ⟨q, hq, rfl⟩ := List.mem_map.mp hx
  obtain ⟨k, _, k2, e⟩ := h.key q hq
  exact List.mem_map.mpr ⟨k, List.mem_range.mpr k2, e.symm⟩
 unfold keysOf at this
 rw [List.length_map, List.length_map, List.length_range] at this
 exact this
theorem Vs.un {n : Nat} {U : List (Str × V)} (h : Vs n U) (hn : n ≤ 200) : Un U := ⟨Nat.le_trans h.len hn, fun q hq => by
 obtain ⟨k, _, k2, e⟩ := h.key q hq
 have f := hY k (Nat.lt_of_lt_of_le k2 hn)
 rw [e]; exact ⟨f.1, f.2.1⟩, h.val, h.nodup⟩
theorem Vs.mono {n : Nat} {U : List (Str × V)} (h : Vs n U) : Vs (n + 1) U := ⟨fun q hq => let ⟨k, k1, k2, e⟩ := h.key q hq; ⟨k, k1, Nat.lt_succ_of_lt k2, e⟩, h.val, h.nodup⟩
theorem Vs.put {n : Nat} {U : List (Str × V)} (h : Vs n U) (h1 : 1 ≤ n) (h2 : n < 200) (y : Str) : Vs (n + 1) (U ++ pp [(vk n, y)]) := by
 refine ⟨fun q hq => ?_, fun q hq => ?_, ?_⟩
 ·rcases List.mem_append.mp hq with hq | hq
  ·exact h.mono.key q hq
  ·rw [List.mem_singleton.mp hq]; exact ⟨n, h1, Nat.lt_succ_self _, rfl⟩
 ·rcases List.mem_append.mp hq with hq | hq
  ·exact h.val q hq
  ·rw [List.mem_singleton.mp hq]; exact ⟨y, rfl⟩
 ·unfold keysOf
  rw [List.map_append, List.nodup_append]
  refine ⟨h.nodup, by simp [pp], fun a ha b hb => ?_⟩
  simp [pp] at hb
  subst hb
  rintro rfl
  obtain ⟨q, hq, e⟩ := List.mem_map.mp ha
  obtain ⟨k, _, k2, e2⟩ := h.key q hq
  have f1 := (hY k (Nat.lt_trans k2 h2)).2.2.2
  have f2 := (hY n h2).2.2.2
  have : vk k = vk n := by rw [← e2]; exact e
  rw [this, f2] at f1
  exact absurd f1 (Nat.ne_of_gt k2)
theorem ls {x : Nat} (h : x < 2 ^ 40) : x.log2 < 1920 := by
 by_cases h0 : x = 0
 ·subst h0; decide
 ·exact Nat.lt_trans ((Nat.log2_lt h0).mpr h) (by decide)
theorem s7 {ns : List Int} {U : List (Str × V)} {σ : ai} {b t mo o : Addr} {ads : List Addr} {ts : List (List (Str × V))} {ps : List (List Int)} {Q : V → ai → Prop} {m₀ : bg} (B : BookAt U σ b t mo ads ts ps) (xo : σ o = some (.list (bn ps))) (zb : m₀ "_law_book" = some (.ref b)) (zo : m₀ "_law_older" = some (.ref o)) (zn : m₀ "_law_number" = some (.int ((ts.length : Int) - 1))) (q : Q (.bool true) σ) :
  an (cb ns) (an (ca ns) aw) m₀ σ (fin Q) := by
 rw [ak]
 simp [cb, zb, bA B]
 refine ⟨U, b, t, mo, ads, ts, ps, rfl, B, ?_⟩
 rw [ak]
 simp [ca, zn, zo, aV xo, bD, B.lenP]
 exact q
theorem u9 (ns : List Int) : ∀ vs σ Q, sp__law_deed ns vs σ Q → vs.length = 3 ∧ d8 ns (aF ["_law_book", "_law_older", "_law_cell"] vs aN) σ (fin Q) := by
 rintro vs σ Q ⟨U, b, t, mo, ads, ts, ps, o, c, rfl, B, xo, hot, hom, hV, hz, q⟩
 refine ⟨rfl, ?_⟩
 have ho := B.ord
 have lenP := B.lenP
 have hpos : 0 < ts.length := lenP ▸ ho.pos
 have hposI : (0 : Int) < ts.length := by omega
 unfold d8
 rw [ak]
 simp [gP, aV xo, bD, lenP]
 refine ⟨hpos, ?_⟩
 have a0 := Int.emod_nonneg (c / 5) (b := (ts.length : Int)) (by omega)
 have a1 := Int.emod_lt_of_pos (c / 5) hposI
 generalize c / 5 % (ts.length : Int) = n at a0 a1 ⊢
 rw [ak]
 simp [gO, aV xo, bD, lenP]
 refine ⟨.inr (by show (48271 : Int).natAbs < 2 ^ 64; decide), hpos, ?_⟩
 have b0 := Int.emod_nonneg (c * 48271 % 65537) (b := (ts.length : Int)) (by omega)
 have b1 := Int.emod_lt_of_pos (c * 48271 % 65537) hposI
 generalize c * 48271 % 65537 % (ts.length : Int) = m at b0 b1 ⊢
 rw [ak]
 have fin1 : ∀ (U' : List (Str × V)) (d : Addr) (kvs : List (Str × V)) (l : List Int) (σ' : ai) (m₀ : bg), lf [t, mo] σ σ' → BookAt U' σ' b t mo (ads ++ [d]) (ts ++ [kvs]) (ps ++ [l]) → Vs (ts.length + 1) U' → m₀ "_law_book" = some (.ref b) → m₀ "_law_older" = some (.ref o) → m₀ "_law_number" = some (.int ts.length) →
   bq [.ref o, .tup (l.map V.int)] σ' fun v σ₂ => an (cb ns) (an (ca ns) aw) m₀ σ₂ (fin Q) := by
  intro U' d kvs l σ' m₀ K B' V' z1 z2 z3
  have xo' : σ' o = some (.list (bn ps)) := K o _ xo (by simp; exact ⟨hot, hom⟩)
  refine cF xo' (by rw [bD, lenP]; omega) ?_
  have e : bn ps ++ [V.tup (l.map V.int)] = bn (ps ++ [l]) := by unfold bn; rw [List.map_append]; rfl
  rw [e]
  have off : ∀ {x : Addr} {y : AObj}, σ' x = some y → y ≠ .list (bn ps) → x ≠ o := fun {x y} h hy => by rintro rfl; rw [xo'] at h; cases h; exact hy rfl
  have B2 : BookAt U' (aZ σ' o (.list (bn (ps ++ [l])))) b t mo (ads ++ [d]) (ts ++ [kvs]) (ps ++ [l]) := by
   obtain ⟨dx, h1, h2⟩ := B'.obj
   exact ⟨⟨dx, by rw [aC (off h1 (by simp))]; exact h1, by rw [aC (off h2 (by simp))]; exact h2⟩, by rw [aC hot.symm]; exact B'.tr, by rw [aC hom.symm]; exact B'.md, B'.ne, B'.len, B'.lenP,
    fun i a ea => let ⟨kv, ep, g1, g2⟩ := B'.at_ i a ea; ⟨kv, ep, g1, by rw [aC (off g2 (by simp))]; exact g2⟩, B'.un, B'.tree, B'.ord⟩
  refine s7 B2 (au _ _ _) z1 z2 (by rw [z3]; simp) ?_
  refine q U' d kvs l _ (fun x y ex nx => ?_) B2 (au _ _ _) V'
  simp at nx
  rw [aC nx.2.2]
  exact K x y ex (by simp; exact ⟨nx.1, nx.2.1⟩)
 have grown : ∀ (L : Addr) (dl : List (Str × Str)) (σ₁ : ai) (m₁ : bg), Grow σ σ₁ → σ₁ L = some (.list (dl.map jz)) → dl.length ≤ 1 → Vs (ts.length + 1) (U ++ pp dl) → (∀ q ∈ dl, db q.1 = true) → m₁ "_law_book" = some (.ref b) → m₁ "_law_older" = some (.ref o) → m₁ "_law_one" = some (.int n) → m₁ "_law_deeds" = some (.ref L) →
   (an (bi "_law_number" (bj "grow" (sp_grow ns) (ae "_law_book") (ah (ae "_law_one") (ah (ae "_law_deeds") av)))) (an (bO (br bN bq (ae "_law_older") (ah (fg (ah (ae "_law_one") av)) av))) aw)) m₁ σ₁ (mv (an (cb ns) (an (ca ns) aw)) (fin Q)) := by
  intro L dl σ₁ m₁ g1 xL hd hu hp z1 z2 z3 z4
  have B1 := B.grow g1
  rw [ak]
  simp [z1, z3, z4, bA B1]
  refine ⟨U, b, t, mo, ads, ts, ps, n, L, dl, rfl, B1, a0, a1, xL, hd, hu.un hz, hp, hz, fun d kvs σ₂ K B2 => ?_⟩
  have xo2 : σ₂ o = some (.list (bn ps)) := K o _ (g1 _ _ xo) (by simp; exact ⟨hot, hom⟩)
  rw [ak]
  simp [z2, z3, bZ xo2]
  exact fin1 _ d kvs [n] σ₂ _ (g1.keep K) B2 hu (by simp [z1]) (by simp [z2]) (by simp)
 have other : (an (bi "_law_deeds" (cq (ah (fg (ah (aE (.str (Str.ofString "put"))) (ah (aB fE (aE (.str (Str.ofString "v"))) (az ja (ah (az (bh ns) (ah (ae "_law_older") av)) av))) (ah (az ja (ah (aB dM (ae "_law_cell") (aB so (aE (.int 10)) (aE (.int 9)))) av)) av)))) av)))
   (an (dz (aH (aB bR (aB dM (ae "_law_cell") (aE (.int 5))) (aE (.int 4)))) (an (bi "_law_deeds" (cq av)) aw) aw)
   (an (bi "_law_number" (bj "grow" (sp_grow ns) (ae "_law_book") (ah (ae "_law_one") (ah (ae "_law_deeds") av)))) (an (bO (br bN bq (ae "_law_older") (ah (fg (ah (ae "_law_one") av)) av))) aw))))
   (put (put (put (put (put aN "_law_book" (.ref b)) "_law_older" (.ref o)) "_law_cell" (.int c)) "_law_one" (.int n)) "_law_other" (.int m)) σ (mv (an (cb ns) (an (ca ns) aw)) (fin Q)) := by
  rw [ak]
  simp [aV xo, bD, lenP]
  have hlog : (ts.length : Int).natAbs.log2 < 1920 := ls (by rw [Int.natAbs_natCast]; exact Nat.lt_trans hz (by decide))
  refine ⟨hlog, ?_⟩
  have f := hY ts.length hz
  have hl : (Str.ofString "v").length + (Str.ofString ((ts.length : Int).repr)).length = (vk ts.length).length := by unfold vk; rw [gX (_ ++ _), iZ, List.length_append, ← gX, ← gX]
  refine ⟨by rw [hl]; exact Nat.le_trans f.2.1 (by decide), ⟨by decide, by decide +kernel⟩, ?_⟩
  refine ⟨(by decide : (0 : Int) < 10 ^ (9 : Int).toNat), ?_⟩
  show ja [.int (c % 10 ^ (9 : Int).toNat)] σ _
  rw [str_int]
  have d0 := Int.emod_nonneg c (b := 10 ^ (9 : Int).toNat) (by decide)
  have d1 := Int.emod_lt_of_pos c (b := 10 ^ (9 : Int).toNat) (by decide)
  generalize c % 10 ^ (9 : Int).toNat = w at d0 d1 ⊢
  refine ⟨ls ?_, ?_⟩
  ·obtain ⟨j, rfl⟩ := Int.eq_ofNat_of_zero_le d0
   have : j < 10 ^ 9 := Int.ofNat_lt.mp d1
   rw [Int.natAbs_natCast]; exact Nat.lt_trans this (by decide)
  generalize Str.ofString (toString w) = y
  intro L hL
  have g1 : Grow σ (aZ σ L (.list [jz (vk ts.length, y)])) := Grow.refl.upd hL
  have xL := au σ L (.list [jz (vk ts.length, y)])
  show an _ _ _ (aZ σ L (.list [jz (vk ts.length, y)])) _
  generalize (aZ σ L (.list [jz (vk ts.length, y)])) = σ₁ at g1 xL ⊢
  rw [ak]
  simp
  by_cases h4 : c % 5 = 4
  ·rw [if_pos h4, ak]
   simp
   intro L2 hL2
   exact grown L2 [] _ _ (g1.upd hL2) (au _ _ _) (Nat.zero_le _) (by rw [show pp [] = [] from rfl, List.append_nil]; exact hV.mono) (fun q h => (nomatch h)) (by simp) (by simp) (by simp) (by simp)
  ·simp [h4]
   exact grown L [(vk ts.length, y)] _ _ g1 xL (Nat.le_refl _) (hV.put hpos hz y) (fun q h => by rw [List.mem_singleton.mp h]; exact f.2.2.1) (by simp) (by simp) (by simp) (by simp)
 simp [gJ]
 by_cases h5 : c % 5 < 2
 ·by_cases hnm : n = m
  ·simp [h5, hnm]
   subst hnm
   exact other
  ·simp [h5, hnm, ak, bA B]
   intro p ep hp
   have g1 : Grow σ (aZ σ p (.dict [] ep)) := Grow.refl.upd hp
   have xp := au σ p (.dict [] ep)
   generalize (aZ σ p (.dict [] ep)) = σ₁ at g1 xp ⊢
   refine ⟨U, b, t, mo, ads, ts, ps, n, m, p, ep, rfl, B.grow g1, a0, a1, b0, b1, hnm, xp, hz, fun d kvs σ₂ K B2 => ?_⟩
   have xo2 : σ₂ o = some (.list (bn ps)) := K o _ (g1 _ _ xo) (by simp; exact ⟨hot, hom⟩)
   simp [bZ xo2]
   exact fin1 _ d kvs [min n m, max n m] σ₂ _ (g1.keep K) B2 hV.mono (by simp) (by simp) (by simp)
 ·simp [h5]
  exact other
end Mine
end
noncomputable section
set_option maxHeartbeats 2000000
namespace Mine
open PySem PySem.W PyProof.Rows PySem.Calls
structure Wd (σ : ai) (b o t mo : Addr) (n : Nat) (ps : List (List Int)) : Prop where
 bk : ∃ U ads ts, BookAt U σ b t mo ads ts ps ∧ Vs ts.length U
 xo : σ o = some (.list (bn ps))
 ot : o ≠ t
 om : o ≠ mo
 len : ps.length = n
theorem Wd.grow {σ σ' : ai} {b o t mo : Addr} {n : Nat} {ps : List (List Int)} (w : Wd σ b o t mo n ps) (g : Grow σ σ') : Wd σ' b o t mo n ps :=
 ⟨let ⟨U, ads, ts, B, h⟩ := w.bk; ⟨U, ads, ts, B.grow g, h⟩, g _ _ w.xo, w.ot, w.om, w.len⟩
theorem Wd.pos {σ : ai} {b o t mo : Addr} {n : Nat} {ps : List (List Int)} (w : Wd σ b o t mo n ps) : 0 < n := by
 obtain ⟨U, ads, ts, B, h⟩ := w.bk
 rw [← w.len]; exact B.ord.pos
structure Turn (b o t mo cl : Addr) (cs : List Int) (hf : Int) (n : Nat) (ps : List (List Int)) (f : Addr) (x y z : Int) (m : bg) (σ : ai) : Prop where
 w : Wd σ b o t mo n ps
 xc : σ cl = some (.list (cs.map V.int))
 xf : σ f = some (.list [.int x, .int y, .int z])
 ft : f ≠ t
 fm : f ≠ mo
 fo : f ≠ o
 x0 : 0 ≤ x
 x1 : x < (n : Int)
 y0 : 0 ≤ y
 y1 : y < (n : Int)
 z0 : 0 ≤ z
 z1 : z < (n : Int)
 ms : m "_law_script" = some .script
 mb : m "_law_book" = some (.ref b)
 ml : m "_law_older" = some (.ref o)
 mc : m "_law_cells" = some (.ref cl)
 mh : m "_law_half" = some (.int hf)
 mf : m "_law_first" = some (.ref f)
inductive TurnI (b o t mo cl : Addr) (cs : List Int) (hf : Int) (N0 i : Nat) (m : bg) (σ : ai) : Prop
 | mk (n : Nat) (ps : List (List Int)) (f : Addr) (x y z : Int) (e : n = N0 + min i cs.length) (T : Turn b o t mo cl cs hf n ps f x y z m σ) : TurnI b o t mo cl cs hf N0 i m σ
theorem lC {σ : ai} {T : ET} {inv : ai → Prop} {m₀ : bg} {N : Nat} {Q : List V → ai → Prop} (hinv : inv σ)
  (hT : ∀ j : Int, 0 ≤ j → ∀ Q' : V → ai → Prop, (∀ x : Int, 0 ≤ x → x < N → Q' (.int x) σ) → T (put m₀ "_law_j" (.int j)) σ Q')
  (q : ∀ x y z : Int, 0 ≤ x → x < N → 0 ≤ y → y < N → 0 ≤ z → z < N → Q [.int x, .int y, .int z] σ) : dn (.name "_law_j") inv tT T m₀ (cK 0 3) [] σ Q := by
 show dn (.name "_law_j") inv tT T m₀ [V.int (0 + ((0 : Nat) : Int)), V.int (0 + ((1 : Nat) : Int)), V.int (0 + ((2 : Nat) : Int))] [] σ Q
 refine dH hinv rfl ?_
 refine hT _ (by decide) _ fun x x0 x1 => ⟨Nat.succ_pos _, dH hinv rfl ?_⟩
 refine hT _ (by decide) _ fun y y0 y1 => ⟨by show 1 < 1048576; decide, dH hinv rfl ?_⟩
 refine hT _ (by decide) _ fun z z0 z1 => ⟨by show 2 < 1048576; decide, hinv, ?_⟩
 exact q x y z x0 x1 y0 y1 z0 z1
theorem kM {ns : List Int} {σ : ai} {b o t mo f : Addr} {N : Nat} {ps : List (List Int)} {Q : V → ai → Prop} {x y z : Int} (w : Wd σ b o t mo N ps) (xf : σ f = some (.list [.int x, .int y, .int z])) (x0 : 0 ≤ x) (x1 : x < N) (y0 : 0 ≤ y) (y1 : y < N) (z0 : 0 ≤ z) (z1 : z < N) (q : ∀ σ', Grow σ σ' → Q (.bool true) σ') : sp__law_asked ns [.ref b, .ref o, .ref f] σ Q := by
 obtain ⟨U, ads, ts, B, h⟩ := w.bk
 have e : ts.length = N := by rw [← B.lenP]; exact w.len
 subst e
 exact ⟨U, b, t, mo, ads, ts, ps, o, f, y, z, x, rfl, B, w.xo, xf, y0, y1, z0, z1, x0, x1, q⟩
theorem xJ (ns : List Int) : (bY ns (some 4) (some 64)).length ≤ 60 := by
 unfold bY
 rw [List.length_take]
 refine Nat.le_trans (Nat.min_le_left _ _) ?_
 show clipAt ns.length 64 - clipAt ns.length 4 ≤ 60
 rw [oG (by decide), oG (by decide)]
 have e1 : (64 : Int).toNat = 64 := rfl
 have e2 : (4 : Int).toNat = 4 := rfl
 rw [e1, e2]
 omega
theorem yA : Ord [[]] := by
 refine ⟨fun k l h => ?_, fun k l h p hp => ?_, fun k l h hk => ?_, by decide, by decide⟩
 ·rw [List.mem_singleton.mp (List.mem_of_getElem? h)]; decide
 ·rw [List.mem_singleton.mp (List.mem_of_getElem? h)] at hp; cases hp
 ·have := (List.getElem?_eq_some_iff.mp h).1
  simp at this; omega
theorem wS (ns : List Int) : ∀ vs σ Q, l4 ns vs σ Q → vs.length = 1 ∧ qN ns (aF ["_law_script"] vs aN) σ (fin Q) := by
 rintro vs σ Q ⟨rfl, hn, q⟩
 refine ⟨rfl, ?_⟩
 unfold qN
 rw [ak]
 simp [qM]
 intro b dx hb hdx hne
 refine ⟨b, dx, rfl, au _ _ _, by rw [aC hne, au], fun t mo d0 ep σ₁ K x1 x2 x3 x4 tm ht hmo hd0 => ⟨rfl, ?_⟩⟩
 have hbd : b ∉ [dx] := by simp; exact Ne.symm hne
 have B0 : BookAt [] σ₁ b t mo [d0] [[]] [[]] := ⟨⟨dx, K b _ (au _ _ _) hbd, x1⟩, x2, x3, tm, rfl, rfl, fun i d e => by
   have hi : i = 0 := by have := (List.getElem?_eq_some_iff.mp e).1; simp at this; exact this
   subst hi
   simp at e
   subst e
   exact ⟨[], ep, rfl, x4⟩, ⟨by simp, by simp, by simp, by simp [keysOf]⟩, fun kvs h => by rw [List.mem_singleton.mp h]; exact Inn.nil, yA⟩
 rw [ak]
 simp [qL]
 intro o hoN
 have g1 : Grow σ₁ (aZ σ₁ o (.list [.tup []])) := Grow.refl.upd hoN
 have xo1 := au σ₁ o (.list [.tup []])
 have ot : o ≠ t := by rintro rfl; rw [x2] at hoN; cases hoN
 have om : o ≠ mo := by rintro rfl; rw [x3] at hoN; cases hoN
 generalize (aZ σ₁ o (.list [.tup []])) = σ₂ at g1 xo1 ⊢
 have w0 : Wd σ₂ b o t mo 1 [[]] := ⟨⟨[], [d0], [[]], B0.grow g1, ⟨by simp, by simp, by simp [keysOf]⟩⟩, xo1, ot, om, rfl⟩
 clear g1 xo1 B0 x1 x2 x3 x4 K
 have back : ∀ (N0 : Nat) (ps : List (List Int)) (σ₃ : ai) (m₃ : bg), N0 ≤ 91 → Wd σ₃ b o t mo N0 ps → m₃ "_law_script" = some .script → m₃ "_law_book" = some (.ref b) → m₃ "_law_older" = some (.ref o) →
   an (ni ns) (an (nh ns) (an (ng ns) (an (nf ns) (an (nd ns) (an (nc ns) (an (kN ns) aw)))))) m₃ σ₃ (fin Q) := by
  intro N0 ps σ₃ m₃ hN w zs zb zo
  rw [ak]
  simp [ni, zs]
  intro cl hcl
  have hcs := xJ ns
  generalize bY ns (some 4) (some 64) = cs at hcs ⊢
  have g4 : Grow σ₃ (aZ σ₃ cl (.list (cs.map V.int))) := Grow.refl.upd hcl
  have xcl := au σ₃ cl (.list (cs.map V.int))
  generalize (aZ σ₃ cl (.list (cs.map V.int))) = σ₄ at g4 xcl ⊢
  have w4 := w.grow g4
  obtain ⟨U, ads, ts, B, hV⟩ := w.bk
  have clt : cl ≠ t := by rintro rfl; rw [B.tr] at hcl; cases hcl
  have clm : cl ≠ mo := by rintro rfl; rw [B.md] at hcl; cases hcl
  have jK : cl ≠ o := by rintro rfl; rw [w.xo] at hcl; cases hcl
  clear B hV
  rw [ak]
  simp [nh, zs, aV xcl]
  try refine ⟨(by omega : (0 : Int) < (cs.length : Int) + 1), ?_⟩
  generalize cell ns 3 / 56 % ((cs.length : Int) + 1) = hf
  rw [ak]
  simp [ng]
  intro f0 hf0
  have g5 : Grow σ₄ (aZ σ₄ f0 (.list [.int 0, .int 0, .int 0])) := Grow.refl.upd hf0
  have xf0 := au σ₄ f0 (.list [.int 0, .int 0, .int 0])
  generalize (aZ σ₄ f0 (.list [.int 0, .int 0, .int 0])) = σ₅ at g5 xf0 ⊢
  have w5 := w4.grow g5
  have nt : ∀ {σ : ai} {n : Nat} {ps : List (List Int)} {f : Addr}, Wd σ b o t mo n ps → σ f = Option.none → f ≠ t ∧ f ≠ mo ∧ f ≠ o := fun {σ n ps f} w h => by
   obtain ⟨U, ads, ts, B, _⟩ := w.bk
   exact ⟨(by rintro rfl; rw [B.tr] at h; cases h), (by rintro rfl; rw [B.md] at h; cases h), (by rintro rfl; rw [w.xo] at h; cases h)⟩
  have f0n := nt w4 hf0
  have cl5 := g5 _ _ xcl
  rw [ak]
  simp [nf, aV cl5]
  refine ⟨by omega, ?_⟩
  have hp0 : (0 : Int) < N0 := Int.ofNat_lt.mpr w.pos
  refine bd (fun i m σ' => TurnI b o t mo cl cs hf N0 i m σ') (fun _ _ _ => False)
   (fun _ _ _ _ => trivial) _ ?_ ?_ (fun _ _ _ h => h.elim) _ _ ⟨N0, ps, f0, 0, 0, 0, by simp, ⟨w5, cl5, xf0, f0n.1, f0n.2.1, f0n.2.2, Int.le_refl _, hp0, Int.le_refl _, hp0, Int.le_refl _, hp0, by simp [zs], by simp [zb], by simp [zo], by simp, by simp, by simp⟩⟩
  ·rintro i v m σ' Q' hv ⟨n, ps', f, x, y, z, hnn, T⟩ q1 q2 q3
   have w' := T.w
   have ms := T.ms
   have mb := T.mb
   have mo' := T.ml
   have mc := T.mc
   have mh := T.mh
   obtain ⟨hi, rfl⟩ := cC hv
   refine ⟨_, rfl, ?_⟩
   have up : ∀ {u : Int}, u < (n : Int) → u < ((n + 1 : Nat) : Int) := fun h => Int.lt_trans h (Int.ofNat_lt.mpr (Nat.lt_succ_self n))
   have deed : ∀ (m₁ : bg) (σ₁ : ai) (f' : Addr) (x' y' z' : Int), Turn b o t mo cl cs hf n ps' f' x' y' z' m₁ σ₁ → m₁ "_law_k" = some (.int (0 + (i : Int))) →
     (an (dz (ie (aH (aB nS (ae "_law_k") (az (bh ns) (ah (ae "_law_cells") av)))) (ie (dq (aH (az (sp__law_deed ns) (ah (ae "_law_book") (ah (ae "_law_older") (ah (aB (aK ns) (ae "_law_cells") (ae "_law_k")) av)))))) tT)) (an (bC (aE (.bool false))) aw) aw) aw) m₁ σ₁ Q' := by
    intro m₁ σ₁ f' x' y' z' T' k7
    have v1 := T'.w
    have v2 := T'.xc
    have k2 := T'.mb
    have k3 := T'.ml
    have k4 := T'.mc
    rw [ak]
    simp [k7, k4, k2, k3, aV v2]
    by_cases hlt : i < cs.length
    ·simp [hlt]
     obtain ⟨U, ads, ts, B, hV⟩ := v1.bk
     have e : ts.length = n := by rw [← B.lenP]; exact v1.len
     obtain ⟨c, hc⟩ : ∃ c, cs[i]? = some c := ⟨_, List.getElem?_eq_getElem hlt⟩
     refine bw v2 (by omega) (v := .int c) (by rw [List.getElem?_map, Int.toNat_natCast, hc]; rfl) ?_
     refine ⟨U, b, t, mo, ads, ts, ps', o, c, rfl, B, v1.xo, v1.ot, v1.om, hV, by omega, fun U' d kvs l σ₂ K B2 xo2 V2 => ?_⟩
     simp
     refine q1 _ _ ⟨n + 1, ps' ++ [l], f', x', y', z', by rw [hnn, Nat.min_eq_left (Nat.le_of_lt hlt), Nat.min_eq_left hlt]; rfl, ⟨⟨⟨U', _, _, B2, by rw [List.length_append]; exact V2⟩, xo2, v1.ot, v1.om, by rw [List.length_append, v1.len]; rfl⟩, K cl _ v2 (by simp; exact ⟨clt, clm, jK⟩), K f' _ T'.xf (by simp; exact ⟨T'.ft, T'.fm, T'.fo⟩), T'.ft, T'.fm, T'.fo, T'.x0, up T'.x1, T'.y0, up T'.y1, T'.z0, up T'.z1, T'.ms, k2, k3, k4, T'.mh, T'.mf⟩⟩
    ·simp [hlt]
     have hge := Nat.le_of_not_lt hlt
     exact q1 _ _ ⟨n, ps', f', x', y', z', by rw [hnn, Nat.min_eq_right hge, Nat.min_eq_right (Nat.le_succ_of_le hge)], T'⟩
   rw [ak]
   simp [mh]
   by_cases he : (i : Int) = hf
   ·rw [if_pos he, ak]
    simp
    refine lC (N := n) trivial (fun j hj Q'' q'' => ?_) fun a b' c' a0 a1 b0 b1 c0 c1 => ?_
    ·simp [ms, mo', hj, aV w'.xo, bD, w'.len]
     refine ⟨w'.pos, ?_⟩
     have hp : (0 : Int) < n := by have := w'.pos; omega
     exact q'' _ (Int.emod_nonneg _ (Int.ne_of_gt hp)) (Int.emod_lt_of_pos _ hp)
    ·intro fN hfN
     have fNn := nt w' hfN
     have gN : Grow σ' (aZ σ' fN (.list [.int a, .int b', .int c'])) := Grow.refl.upd hfN
     have xN := au σ' fN (.list [.int a, .int b', .int c'])
     generalize (aZ σ' fN (.list [.int a, .int b', .int c'])) = σN at gN xN ⊢
     show an _ _ _ _ _
     rw [ak]
     simp [mb, mo']
     refine kM (w'.grow gN) xN a0 a1 b0 b1 c0 c1 fun σM gM => ?_
     simp
     exact deed _ σM fN a b' c' ⟨(w'.grow gN).grow gM, gM _ _ (gN _ _ T.xc), gM _ _ xN, fNn.1, fNn.2.1, fNn.2.2, a0, a1, b0, b1, c0, c1, by simp [ms], by simp [mb], by simp [mo'], by simp [mc], by simp [mh], by simp⟩ (by simp)
   ·rw [if_neg he]
    exact deed _ σ' f x y z ⟨w', T.xc, T.xf, T.ft, T.fm, T.fo, T.x0, T.x1, T.y0, T.y1, T.z0, T.z1, by simp [ms], by simp [mb], by simp [mo'], by simp [mc], by simp [mh], by simp [T.mf]⟩ (by simp)
  ·rintro m σ' ⟨n, ps', f, x, y, z, hnn, ⟨w', xc, xf, ft, fm, fo, x0, x1, y0, y1, z0, z1, ms, mb, mo', mc, mh, mf⟩⟩
   rw [aU, ak]
   have few : ps'.length ≤ 200 := let ⟨U, ads, ts, B, _⟩ := w'.bk; B.ord.few
   simp [nd, mo', aV w'.xo, bD]
   refine ⟨by omega, ?_⟩
   refine bd (fun i m' σ'' => Grow σ' σ'' ∧ m' "_law_script" = some .script ∧ m' "_law_book" = some (.ref b) ∧ m' "_law_older" = some (.ref o) ∧ m' "_law_first" = some (.ref f)) (fun _ _ _ => False)
    (fun _ _ _ _ => trivial) _ ?_ ?_ (fun _ _ _ h => h.elim) _ _ ⟨Grow.refl, ms, mb, mo', mf⟩
   ·rintro i v m' σ'' Q' hv ⟨g, ks, kb, ko, kf⟩ q1 q2 q3
    obtain ⟨hi, rfl⟩ := cC hv
    refine ⟨_, rfl, ?_⟩
    have w2 := w'.grow g
    obtain ⟨U, ads, ts, B, hV⟩ := w2.bk
    obtain ⟨l, hl⟩ : ∃ l, ps'[i]? = some l := ⟨_, List.getElem?_eq_getElem hi⟩
    have hl2 := B.ord.two _ _ hl
    have ki : ((0 : Int) + (i : Int)).toNat = i := by omega
    rw [ak]
    simp [kb, bA B]
    refine ⟨U, b, t, mo, ads, ts, ps', (i : Int), l, rfl, B, by omega, by rw [Int.toNat_natCast]; exact hl, ?_⟩
    rw [ak]
    simp
    refine ⟨.tup (l.map V.int), l, rfl, .inl rfl, by omega, fun σ₃ g3 => ?_⟩
    simp [ko]
    refine jH (g3 _ _ w2.xo) (by omega) (by rw [Int.toNat_natCast]; exact hl) ?_
    refine t3 l ?_
    simp
    exact q1 _ _ ⟨g.trans g3, by simp [ks], by simp [kb], by simp [ko], by simp [kf]⟩
   ·rintro m' σ'' ⟨g, ks, kb, ko, kf⟩
    have w2 := w'.grow g
    rw [aU, ak]
    simp [nc]
    refine lC (N := n) trivial (fun j hj Q'' q'' => ?_) fun a b' c' a0 a1 b0 b1 c0 c1 => ?_
    ·simp [ks, ko, hj, aV w2.xo, bD, w2.len]
     refine ⟨w2.pos, ?_⟩
     have hp : (0 : Int) < n := by have := w2.pos; omega
     exact q'' _ (Int.emod_nonneg _ (Int.ne_of_gt hp)) (Int.emod_lt_of_pos _ hp)
    ·intro fN hfN
     have gN : Grow σ'' (aZ σ'' fN (.list [.int a, .int b', .int c'])) := Grow.refl.upd hfN
     have xN := au σ'' fN (.list [.int a, .int b', .int c'])
     generalize (aZ σ'' fN (.list [.int a, .int b', .int c'])) = σN at gN xN ⊢
     have wN := w2.grow gN
     obtain ⟨U, ads, ts, B, hV⟩ := wN.bk
     show an _ _ _ _ _
     rw [ak]
     simp [kN, kb, ko, kf, bA B]
     refine ⟨U, b, t, mo, ads, ts, ps', rfl, B, ?_⟩
     simp [aV wN.xo, bD, B.lenP]
     refine kM wN (gN _ _ (g _ _ xf)) x0 x1 y0 y1 z0 z1 fun σM gM => ?_
     simp
     exact kM (wN.grow gM) (gM _ _ xN) a0 a1 b0 b1 c0 c1 fun σK gK => q _
 rw [ak]
 simp [qK]
 by_cases h8 : cell ns 3 / 7 % 8 = 1
 ·simp [h8, ak]
  refine bd (fun i m σ' => ∃ ps, Wd σ' b o t mo (1 + i) ps ∧ m "_law_script" = some .script ∧ m "_law_book" = some (.ref b) ∧ m "_law_older" = some (.ref o)) (fun _ _ _ => False)
   (fun _ _ _ _ => trivial) _ ?_ ?_ (fun _ _ _ h => h.elim) _ _ ⟨_, w0, by simp, by simp, by simp⟩
  ·rintro i v m σ' Q' hv ⟨ps, w, ms, mb, mo'⟩ q1 q2 q3
   obtain ⟨hi, rfl⟩ := cC hv
   refine ⟨_, rfl, ?_⟩
   obtain ⟨U, ads, ts, B, hV⟩ := w.bk
   have e : ts.length = 1 + i := by rw [← B.lenP]; exact w.len
   simp [ak, mb, bA B]
   intro L hL
   have gL : Grow σ' (aZ σ' L (.list [])) := Grow.refl.upd hL
   have xL := au σ' L (.list [])
   generalize (aZ σ' L (.list [])) = σL at gL xL ⊢
   have hi90 : i < 90 := hi
   refine ⟨U, b, t, mo, ads, ts, ps, (i : Int), L, [], rfl, B.grow gL, by omega, by omega, xL, by simp, by rw [show pp [] = [] from rfl, List.append_nil]; exact B.un, (fun q h => (nomatch h)), by omega, fun d kvs σ₂ K B2 => ?_⟩
   have xo2 : σ₂ o = some (.list (bn ps)) := K o _ (gL _ _ w.xo) (by simp; exact ⟨w.ot, w.om⟩)
   simp [mo', bZ xo2]
   refine cF xo2 (by rw [bD, w.len]; omega) ?_
   have e2 : bn ps ++ [V.tup [V.int (i : Int)]] = bn (ps ++ [[(i : Int)]]) := by unfold bn; rw [List.map_append]; rfl
   rw [e2]
   have off : ∀ {x : Addr} {y : AObj}, σ₂ x = some y → y ≠ .list (bn ps) → x ≠ o := fun {x y} h hy => by rintro rfl; rw [xo2] at h; cases h; exact hy rfl
   refine q1 _ _ ⟨ps ++ [[(i : Int)]], ⟨⟨U ++ pp [], ads ++ [d], ts ++ [kvs], ?_, by rw [List.length_append, show pp [] = [] from rfl, List.append_nil]; exact hV.mono⟩, au _ _ _, w.ot, w.om, by rw [List.length_append, w.len]; rfl⟩, by simp [ms], by simp [mb], by simp [mo']⟩
   obtain ⟨dx', h1, h2⟩ := B2.obj
   exact ⟨⟨dx', by rw [aC (off h1 (by simp))]; exact h1, by rw [aC (off h2 (by simp))]; exact h2⟩, by rw [aC w.ot.symm]; exact B2.tr, by rw [aC w.om.symm]; exact B2.md, B2.ne, B2.len, B2.lenP,
    fun i a ea => let ⟨kv, ep, g1, g2⟩ := B2.at_ i a ea; ⟨kv, ep, g1, by rw [aC (off g2 (by simp))]; exact g2⟩, B2.un, B2.tree, B2.ord⟩
  ·rintro m σ' ⟨ps, w, ms, mb, mo'⟩
   rw [eA] at w
   rw [aU]
   exact back _ ps σ' m (by decide) w ms mb mo'
 ·simp [h8]
  exact back 1 _ σ₂ _ (by decide) w0 (by simp) (by simp) (by simp)
end Mine
end
noncomputable section
namespace Mine
open PySem PySem.W PyProof.Rows PySem.Calls
set_option maxRecDepth 100000
theorem xM (P : Params) : nsIn (Hd.kk P) mainGlobals (Str.ofString "Book") = some (some (.ref Hd.bkA)) := by kernel_rfl
theorem xO (P : Params) : xP (Hd.kk P) Hd.bkA Hd.bkN = true := by kernel_rfl
theorem uc {p : Program} {loose : List Str} {mean : ExcName → Option Value} {mg mb : Str → Option Value} {h : Heap} {x : String} (T : Top p loose mean mg mb h) (hf : (!(startupNames ++ loose ++ (recsOf p).map (·.name) ++ (litsOf p).map (·.1) ++ (clssOf p loose).map (·.name)).contains (Str.ofString x)) = true) : mg (Str.ofString x) = none := by
 simp only [Bool.not_eq_true', List.contains_eq_mem, decide_eq_false_iff_not, List.mem_append, not_or] at hf
 obtain ⟨⟨⟨⟨h1, h2⟩, h3⟩, h4⟩, h5⟩ := hf
 exact T.free _ h1 h2 h3 h4 h5
theorem w6 : (!(startupNames ++ (looseW Hd.vw []) ++ (recsOf Hd.vw).map (·.name) ++ (litsOf Hd.vw).map (·.1) ++ (clssOf Hd.vw (looseW Hd.vw [])).map (·.name)).contains (Str.ofString "reversed")) = true := by decide +kernel
theorem vB {C : Cx} (G : Gl C Hd.vw) (hz : C.held = none) {bk N : Addr} {mN : Str → Option Value} (B : Bk C bk N mN) {P : Params} (KX : (Hd.kk P).In C.hB) (hN : N = Hd.bkN) (hrev : C.mg (Str.ofString "reversed") = Option.none) (g1 : GInt C "LONGEST_PART" 12) (g2 : GStr C "SIGNS" (Str.ofString "abcdefghijklmnopqrstuvwxyzABCDEFGHIJKLMNOPQRSTUVWXYZ0123456789.-_")) (g3 : GInt C "MOST_PARTS" 8) : FnAt C 8 "law" (l4 C.ns) := by
 have h1 := kq G hz (ve C.ns)
 have h7 := rD G hz g1 g2 (wT C.ns)
 have h8 := rC G hz g3 h7 (uY C.ns)
 have h9 := mG G hz (wU C.ns)
 have hab := uf G hz (tU C.ns)
 have hal := oq G hz (wW C.ns)
 have hmk := ue G hz hal (tQ C.ns)
 have hcg := pZ G hz hmk (pI C.ns)
 have hsd := pX G hz hcg hal (pG C.ns)
 have hcs := rE G hz hcg hsd hab (rd C.ns)
 have hjo := sW G hz hcs hcg hsd hab (r9 C.ns)
 have hdo := vI G hz h8 h9 (u8 C.ns)
 have hch := rF G hz hdo (re C.ns)
 have hin := p4 G hz B KX hN (u6 C.ns)
 have hne := vF G hz B KX hN (uZ C.ns)
 have hma := vG G hz B KX hN (u5 C.ns)
 have hpa := rA G hz B KX hN hne (ra C.ns)
 have hpu := pY G hz B KX hN (pH C.ns)
 have hgr := vH G hz B KX hN hne hch hpu (u7 C.ns)
 have hel := sX G hz B KX hN hne (sd C.ns)
 have hna := rB G hz B KX hN hel (rb C.ns)
 have hme := ud G hz B KX hN hne hna hjo hpu (tP C.ns)
 have hro := vE G hz B hrev KX hN hne (uX C.ns)
 have hw := mH G hz (tO C.ns)
 have haw := iX G hz hw (wV C.ns)
 have heb := iW G hz (nO C.ns)
 have hde := ov G hz B hme hgr hma hw (u9 C.ns)
 have hir := km G hz haw (rc C.ns)
 have hco := kr G hz (vf C.ns)
 have hnh := fT G hz B heb hna hw hco (u4 C.ns)
 have hho := mI G hz B heb hel hro haw hir (tR C.ns)
 have has := mJ G hz hnh hho (tS C.ns)
 exact xD G hz B hin h1 hgr has hde hpa haw hma (wS C.ns)
theorem yG : (["len", "range", "min", "max", "isinstance", "bool", "str", "int", "list", "dict", "set", "sorted", "tuple", "sum", "type"].all fun x : String => !(startupNames ++ (looseW Hd.vw []) ++ (recsOf Hd.vw).map (·.name) ++ (litsOf Hd.vw).map (·.1) ++ (clssOf Hd.vw (looseW Hd.vw [])).map (·.name)).contains (Str.ofString x)) = true := by decide +kernel
theorem v1 : valOf Hd.vw (Str.ofString "LONGEST_PART") = some (.int 12) := by rfl
theorem v2 : valOf Hd.vw (Str.ofString "SIGNS") = some (.str (Str.ofString "abcdefghijklmnopqrstuvwxyzABCDEFGHIJKLMNOPQRSTUVWXYZ0123456789.-_")) := by rfl
theorem v3 : valOf Hd.vw (Str.ofString "MOST_PARTS") = some (.int 8) := by rfl
theorem yF : importsNone Hd.vw = true := by decide +kernel
end Mine
open PySem PySem.W PyProof.Rows PySem.Calls
set_option maxRecDepth 100000
set_option maxHeartbeats 8000000
theorem PySem.Challenge.cw_uf050007_09_holds : PySem.Challenge.rw_uf050007_09.Holds :=
 Mine.Hd.hd (by rfl) (by rfl) (by rfl) (by
 intro w s₀ s₁ mg mb G Y fa o pm cd doc dV kV ho hd hcd hD hmg hg args vals as hpre hlay hrd hwl hlo
 have KX := kIn_of Y
 have X := (Ground.X G).1
 have V := (Ground.X G).2
 refine Ground.open G ?_
 intro T B D TE TW
 try (refine guard_noD D (by decide +kernel) ?_; clear D)
 obtain ⟨_, _, M⟩ := bmod_of_top T
 wrow_args hpre hlay hrd hwl hlo
 all_goals first | refine callC_kw (enter_call ?_) | refine enter_call ?_ | refine callC_kw (enter_callW ?_) | refine enter_callW ?_ | w_how
 rename_i ns _ _ _ _ _ _ _ aS vs _ hL _ _ _ hI _ hn _
 have O : Mine.Cx.Ok ⟨PySem.Challenge.rw_uf050007_09.row.prog, w, s₁, aS, ns, mg, mb, none⟩ := Mine.Cx.ok_of rfl T Mine.yF hL hI hn
 have GG := Mine.Gl.of T O Mine.yG
 have hrev : mg (Str.ofString "reversed") = none := Mine.uc T Mine.w6
 have g1 : Mine.GInt ⟨PySem.Challenge.rw_uf050007_09.row.prog, w, s₁, aS, ns, mg, mb, none⟩ "LONGEST_PART" 12 := Mine.GInt.of T Mine.v1
 have g2 : Mine.GStr ⟨PySem.Challenge.rw_uf050007_09.row.prog, w, s₁, aS, ns, mg, mb, none⟩ "SIGNS" (Str.ofString "abcdefghijklmnopqrstuvwxyzABCDEFGHIJKLMNOPQRSTUVWXYZ0123456789.-_") := Mine.GStr.of T Mine.v2
 have g3 : Mine.GInt ⟨PySem.Challenge.rw_uf050007_09.row.prog, w, s₁, aS, ns, mg, mb, none⟩ "MOST_PARTS" 8 := Mine.GInt.of T Mine.v3
 obtain ⟨mN, BK⟩ := Mine.ti (C := ⟨PySem.Challenge.rw_uf050007_09.row.prog, w, s₁, aS, ns, mg, mb, none⟩) KX (Mine.xO w.params) (mg_of KX T.g (Mine.xM w.params))
 obtain ⟨a, o', fd', e1, e2, e3, S⟩ := Mine.vB GG rfl BK (P := w.params) KX rfl hrev g1 g2 g3
 have ea : a = fa := by
  have := e1.symm.trans hmg
  cases this; rfl
 subst ea
 exact Mine.sN rfl S (by decide) hg (raisesW_false (by wrow_none_raised)) (by wrow_post))
end
